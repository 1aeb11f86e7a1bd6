import PyProof.Rows.All
import PySem.Challenge.RW_onesidedalike_k42_whole_errors_that_keep
import PySem.PyData
import KE.DataEq
import KE.DataAny
import KE.LtData
import HandS.ForExc
import HandS.ForMost
import HandS.Wide
import HandS.TupAny
import HandS.Conv
import KE.DataIsa
import HandS.IsInst
import HandS.ExcInit
import HandS.ExcSuper
import HandS.ExcField
import HandS.ExcIs
import KE.KExcSuper
import KE.KSuper
set_option autoImplicit false
set_option Elab.async false
set_option linter.all false
set_option maxRecDepth 100000
/-! IpCore: the values, the store, the terms and the evaluator. -/
namespace Ip
open PySem

/-- a value: tuples, texts, numbers by value; lists that nobody changes any more by value; a list that may be changed by its cell -/
inductive PV where
  | non | bl (b : Bool) | int (i : Int) | str (s : Str)
  | tup (xs : List PV) | lst (xs : List PV)
  | loc (k : Nat) | exc (c : Nat) (v : PV) | slst (xs : List PV) | dct (ks vs : List PV)
  deriving Inhabited
/-- what a cell holds -/
inductive Cell where
  | lst (xs : List PV)
  deriving Inhabited
abbrev Store := List Cell
/-- what an expression gives: a value, or a new thing that nobody else knows -/
inductive RV where
  | v (p : PV) | f (c : Cell)
  deriving Inhabited
def Cell.fz : Cell → PV
  | .lst xs => .lst xs
def RV.fz : RV → PV
  | .v p => p
  | .f c => c.fz
abbrev Rho := List (Option PV)
inductive Out (α : Type) where
  | ok (a : α) (S : Store) | exn (c : Nat) (v : PV) (S : Store) | bad
  deriving Inhabited
def Out.bind {α β : Type} : Out α → (α → Store → Out β) → Out β
  | .ok a S, k => k a S
  | .exn c v S, _ => .exn c v S
  | .bad, _ => .bad
@[simp] theorem Out.bind_ok {α β : Type} (a : α) (S : Store) (k : α → Store → Out β) : (Out.ok a S).bind k = k a S := rfl
@[simp] theorem Out.bind_exn {α β : Type} (c : Nat) (v : PV) (S : Store) (k : α → Store → Out β) : (Out.exn c v S : Out α).bind k = .exn c v S := rfl
@[simp] theorem Out.bind_bad {α β : Type} (k : α → Store → Out β) : (Out.bad : Out α).bind k = .bad := rfl

/-! ### no cell is told -/
mutual
def PV.pure : PV → Bool
  | .tup xs => PV.pures xs
  | .lst xs => PV.pures xs
  | .slst xs => PV.pures xs
  | .dct ks vs => PV.pures ks && PV.pures vs
  | .loc _ => false
  | .exc _ v => v.pure
  | .non => true | .bl _ => true | .int _ => true | .str _ => true
def PV.pures : List PV → Bool
  | [] => true
  | x :: xs => x.pure && PV.pures xs
end
mutual
def PV.same : PV → PV → Bool
  | .non, .non => true
  | .bl a, .bl b => a == b
  | .int i, .int j => i == j
  | .str x, .str y => x == y
  | .tup xs, .tup ys => PV.sames xs ys
  | .lst xs, .lst ys => PV.sames xs ys
  | .slst xs, .slst ys => PV.sames xs ys
  | .dct ks vs, .dct js us => PV.sames ks js && PV.sames vs us
  | .loc k, .loc l => k == l
  | .exc c v, .exc d u => c == d && PV.same v u
  | _, _ => false
def PV.sames : List PV → List PV → Bool
  | [], [] => true
  | x :: xs, y :: ys => PV.same x y && PV.sames xs ys
  | _, _ => false
end
mutual
theorem PV.same_self : ∀ p : PV, p.same p = true
  | .non => rfl
  | .bl b => by simp [PV.same]
  | .int i => by simp [PV.same]
  | .str x => by simp [PV.same]
  | .tup xs => by simp only [PV.same]; exact PV.sames_self xs
  | .lst xs => by simp only [PV.same]; exact PV.sames_self xs
  | .slst xs => by simp only [PV.same]; exact PV.sames_self xs
  | .dct ks vs => by simp only [PV.same, PV.sames_self ks, PV.sames_self vs, Bool.and_self]
  | .loc k => by simp [PV.same]
  | .exc c v => by simp only [PV.same, beq_self_eq_true, Bool.true_and]; exact PV.same_self v
theorem PV.sames_self : ∀ ps : List PV, PV.sames ps ps = true
  | [] => rfl
  | p :: ps => by simp only [PV.sames, PV.same_self p, PV.sames_self ps, Bool.and_self]
end
mutual
theorem PV.same_eq : ∀ p q : PV, p.same q = true → p = q
  | .non, q, h => by cases q <;> simp_all [PV.same]
  | .bl b, q, h => by cases q <;> simp_all [PV.same]
  | .int i, q, h => by cases q <;> simp_all [PV.same]
  | .str x, q, h => by cases q <;> simp_all [PV.same]
  | .tup xs, q, h => by
    cases q <;> simp only [PV.same, Bool.false_eq_true] at h
    rw [PV.sames_eq xs _ h]
  | .lst xs, q, h => by
    cases q <;> simp only [PV.same, Bool.false_eq_true] at h
    rw [PV.sames_eq xs _ h]
  | .slst xs, q, h => by
    cases q <;> simp only [PV.same, Bool.false_eq_true] at h
    rw [PV.sames_eq xs _ h]
  | .dct ks vs, q, h => by
    cases q <;> simp only [PV.same, Bool.false_eq_true, Bool.and_eq_true] at h
    rw [PV.sames_eq ks _ h.1, PV.sames_eq vs _ h.2]
  | .loc k, q, h => by cases q <;> simp_all [PV.same]
  | .exc c v, q, h => by
    cases q <;> simp only [PV.same, Bool.false_eq_true, Bool.and_eq_true, beq_iff_eq] at h
    rw [h.1, PV.same_eq v _ h.2]
theorem PV.sames_eq : ∀ ps qs : List PV, PV.sames ps qs = true → ps = qs
  | [], qs, h => by cases qs <;> simp_all [PV.sames]
  | p :: ps, qs, h => by
    cases qs <;> simp only [PV.sames, Bool.false_eq_true, Bool.and_eq_true] at h
    rw [PV.same_eq p _ h.1, PV.sames_eq ps _ h.2]
end
/-! ### cells that a def made, told by value behind it -/
mutual
def PV.subst (g : Nat → Option PV) : PV → Option PV
  | .tup xs => (PV.substs g xs).map .tup
  | .lst xs => (PV.substs g xs).map .lst
  | .slst xs => (PV.substs g xs).map .slst
  | .dct ks vs => (PV.substs g vs).map (.dct ks)
  | .loc k => g k
  | .exc c v => (PV.subst g v).map (.exc c)
  | .non => some .non | .bl b => some (.bl b) | .int i => some (.int i) | .str s => some (.str s)
def PV.substs (g : Nat → Option PV) : List PV → Option (List PV)
  | [] => some []
  | x :: xs => match PV.subst g x, PV.substs g xs with
    | some y, some ys => some (y :: ys)
    | _, _ => none
end
def cellVal (S : Store) (ok : Nat → Bool) : Nat → Nat → Option PV
  | 0, _ => none
  | m + 1, k => if ok k then (match S[k]? with
    | some (.lst xs) => (PV.substs (cellVal S ok m) xs).map .lst
    | none => none) else none
/-! ### data -/
mutual
def PV.toD (g : Nat → Option PyData) : PV → Option PyData
  | .non => some .none | .bl b => some (.bool b) | .int i => some (.int i) | .str s => some (.str s)
  | .tup xs => (PV.toDs g xs).map .tuple
  | .lst xs => (PV.toDs g xs).map .list
  | .slst xs => (PV.toDs g xs).map .list
  | .dct ks vs => match PV.toDs g ks, PV.toDs g vs with
    | some a, some b => if a.length = b.length then some (.dict (a.zip b)) else none
    | _, _ => none
  | .loc k => g k
  | .exc _ _ => none
def PV.toDs (g : Nat → Option PyData) : List PV → Option (List PyData)
  | [] => some []
  | x :: xs => match PV.toD g x, PV.toDs g xs with
    | some y, some ys => some (y :: ys)
    | _, _ => none
end
def cellD (S : Store) : Nat → Nat → Option PyData
  | 0, _ => none
  | m + 1, k => match S[k]? with
    | some (.lst xs) => (PV.toDs (cellD S m) xs).map .list
    | none => none
def dataOf (S : Store) (p : PV) : Option PyData := p.toD (cellD S 4)

def PV.atom : PV → Bool
  | .non => true | .bl _ => true | .int _ => true | .str _ => true
  | _ => false
def flatDct : PV → Bool
  | .dct _ vs => vs.all PV.atom
  | _ => false
def isKey : PV → Bool
  | .int _ => true | .str _ => true
  | _ => false
/-! ### terms -/
inductive Bop where | add | sub | mul | fdiv | mod | pow
  deriving DecidableEq
inductive Cop where | eq | ne | lt | le | gt | ge | is | isnot | mem | nmem
  deriving DecidableEq
inductive Bi where | len | sum | all | any | tuple | list | int | abs | max | min | repr
  deriving DecidableEq
inductive Me where | append | extend | popAt
  deriving DecidableEq
def meId : Me → String
  | .append => "list.append" | .extend => "list.extend" | .popAt => "list.pop"
inductive Ty where | int | bool | tuple | list | str | verr | cls (c : Nat)
  deriving DecidableEq
inductive Tgt where
  | name (i : Nat) | tup (ts : List Tgt)
inductive IE where
  | cst (p : PV) | var (i : Nat) | gl (g : Nat)
  | tup (es : List IE) | lst (es : List IE)
  | bin (o : Bop) (a b : IE) | neg (a : IE) | not (a : IE) | and (a b : IE) | or (a b : IE)
  | cmp (o : Cop) (a b : IE) | chain (o o' : Cop) (a b c : IE) | ite (c a b : IE)
  | idx (a b : IE) | sl (a : IE) (lo hi : Option IE)
  | call (f : Nat) (es : List IE) | mk (c : Nat) (e : IE)
  | bi (b : Bi) (es : List IE) | isi (a : IE) (t : Ty)
  | meth (m : Me) (o : IE) (es : List IE) | val (o : IE)
  | alloc (e : IE) | dct0 | dct1 (k e : IE)
  | comp (own : List Nat) (tg : Tgt) (it : IE) (cond : Option IE) (elt : IE)
  | rng (es : List IE)
inductive IS where
  | asg (i : Nat) (e : IE) | asgT (tg : Tgt) (e : IE) | par (i j : Nat) (a b : IE)
  | sub (o i e : IE) | ex (e : IE) | ret (e : IE) | ifs (c : IE) (a b : List IS)
  | for_ (tg : Tgt) (it : IE) (b : List IS) | while_ (c : IE) (b : List IS)
  | doc | rs (c : Nat) (e : IE) | tr (b : List IS) (c : Nat) (i : Nat) (h : List IS)
structure Fn where
  params : Nat
  slots : Nat
  body : List IS

/-! ### what operations give -/
def mulOk (i j : Int) : Bool := decide (i.natAbs < 2 ^ 64) || decide (j.natAbs < 2 ^ 64) || decide (i.natAbs.log2 + j.natAbs.log2 < 1000000)
def binI : Bop → Int → Int → Option Int
  | .add, i, j => some (i + j)
  | .sub, i, j => some (i - j)
  | .mul, i, j => if mulOk i j then some (i * j) else none
  | .fdiv, i, j => if 0 < j ∧ j.natAbs.log2 < 9000 then some (i / j) else none
  | .mod, i, j => if 0 < j then some (i % j) else none
  | .pow, i, j => if 0 ≤ j ∧ j ≤ 1000000 ∧ i.natAbs.log2 * j.toNat < 1000000 then some (i ^ j.toNat) else none
def seqOf (S : Store) : PV → Option (List PV)
  | .tup xs => some xs
  | .lst xs => some xs
  | .slst xs => some xs
  | .loc k => match S[k]? with
    | some (.lst xs) => some xs
    | none => none
  | _ => none
/-- the list that is walked is as it was -/
def sameSeq (S : Store) (p : PV) (xs : List PV) : Bool := match seqOf S p with
  | some ys => PV.sames ys xs
  | none => false
def isLoc : PV → Bool
  | .loc _ => true
  | _ => false
def isT : PV → Bool
  | .tup _ => true
  | _ => false
def isLs : PV → Bool
  | .lst _ => true
  | .loc _ => true
  | _ => false
abbrev big : Nat := 16777216
def evBin (S : Store) (o : Bop) (p q : PV) : Option RV :=
  match p, q with
  | .int i, .int j => (binI o i j).map fun k => .v (.int k)
  | .tup xs, .tup ys => if o = .add ∧ xs.length + ys.length ≤ big then some (.v (.tup (xs ++ ys))) else none
  | p, .int k => if o = .mul ∧ isLs p then (match seqOf S p with
      | some xs => if -(2 ^ 63) ≤ k ∧ k < 2 ^ 63 ∧ xs.length * k.toNat ≤ big then some (.f (.lst ((List.replicate k.toNat xs).flatten))) else none
      | none => none) else none
  | p, q => if o = .add ∧ isLs p ∧ isLs q then (match seqOf S p, seqOf S q with
      | some xs, some ys => if xs.length + ys.length ≤ big then some (.f (.lst (xs ++ ys))) else none
      | _, _ => none) else none
def cmpI : Cop → Int → Int → Option Bool
  | .lt, i, j => some (decide (i < j))
  | .le, i, j => some (decide (i ≤ j))
  | .gt, i, j => some (decide (j < i))
  | .ge, i, j => some (decide (j ≤ i))
  | _, _, _ => none
def cmpN (o : Cop) : PV → PV → Option Bool
  | .int i, .int j => cmpI o i j
  | _, _ => none
def fitD (d : PyData) : Bool := d.plain && decide (d.depth ≤ 64)
def evCmp (S : Store) (o : Cop) (p q : PV) : Option Bool :=
  match o with
  | .eq => match dataOf S p, dataOf S q with
    | some d, some e => if fitD d ∧ fitD e then some (PyData.eqv d e) else none
    | _, _ => none
  | .ne => match dataOf S p, dataOf S q with
    | some d, some e => if fitD d ∧ fitD e then some (!PyData.eqv d e) else none
    | _, _ => none
  | .mem => match dataOf S p, dataOf S q with
    | some d, some (.list es) => if fitD d ∧ fitD (.list es) then some (es.any fun e => PyData.eqv e d) else none
    | some d, some (.tuple es) => if fitD d ∧ fitD (.tuple es) then some (es.any fun e => PyData.eqv e d) else none
    | _, _ => none
  | .nmem => match dataOf S p, dataOf S q with
    | some d, some (.list es) => if fitD d ∧ fitD (.list es) then some (!(es.any fun e => PyData.eqv e d)) else none
    | some d, some (.tuple es) => if fitD d ∧ fitD (.tuple es) then some (!(es.any fun e => PyData.eqv e d)) else none
    | _, _ => none
  | .is => match q with
    | .non => match p with
      | .non => some true
      | _ => some false
    | _ => none
  | .isnot => match q with
    | .non => match p with
      | .non => some false
      | _ => some true
    | _ => none
  | o => cmpN o p q
/-- the place that an index means -/
def place (n : Nat) (i : Int) : Option Nat := if 0 ≤ i then (if i < n then some i.toNat else none) else if -(n : Int) ≤ i then some (i + n).toNat else none
def evIdx (S : Store) (p q : PV) : Option PV :=
  match seqOf S p, q with
  | some xs, .int i => match place xs.length i with
    | some j => xs[j]?
    | none => none
  | _, _ => none
def cut (n d : Nat) : Option Int → Nat
  | none => d
  | some v => if v < 0 then (v + (n : Int)).toNat else min v.toNat n  -- so
def evSl (S : Store) (p : PV) (lo hi : Option Int) : Option RV :=
  match p with
  | .tup xs => some (.v (.tup ((xs.drop (cut xs.length 0 lo)).take (cut xs.length xs.length hi - cut xs.length 0 lo))))
  | p => match seqOf S p with
    | some xs => some (.f (.lst ((xs.drop (cut xs.length 0 lo)).take (cut xs.length xs.length hi - cut xs.length 0 lo))))
    | none => none
def intsOf : List PV → Option (List Int)
  | [] => some []
  | .int i :: r => (intsOf r).map (i :: ·)
  | _ :: _ => none
def boolsOf : List PV → Option (List Bool)
  | [] => some []
  | .bl b :: r => (boolsOf r).map (b :: ·)
  | _ :: _ => none
def evBi (S : Store) : Bi → List PV → Option RV
  | .len, [p] => (seqOf S p).map fun xs => .v (.int xs.length)
  | .sum, [p] => if isLs p then ((seqOf S p).bind intsOf).map fun ns => .v (.int ns.sum) else none
  | .all, [p] => if isLs p then ((seqOf S p).bind boolsOf).map fun bs => .v (.bl (bs.all id)) else none
  | .any, [p] => if isLs p then ((seqOf S p).bind boolsOf).map fun bs => .v (.bl (bs.any id)) else none
  | .tuple, [p] => (seqOf S p).map fun xs => .v (.tup xs)
  | .list, [p] => (seqOf S p).map fun xs => .f (.lst xs)
  | .int, [.int i] => some (.v (.int i))
  | .int, [.bl b] => some (.v (.int (if b then 1 else 0)))
  | .abs, [.int i] => some (.v (.int (if i < 0 then -i else i)))
  | .max, [.int i, .int j] => some (.v (.int (if j > i then j else i)))
  | .min, [.int i, .int j] => some (.v (.int (if j < i then j else i)))
  | .repr, [p] => match dataOf S p with
    | some d => if (d.plain ∨ flatDct p) ∧ d.showable ∧ d.depth ≤ 64 ∧ d.shown.length + 64 ≤ big then some (.v (.str d.shown)) else none
    | none => none
  | _, _ => none
def tyD : Ty → PyData → Option Bool
  | .int, .int _ => some true
  | .int, .bool _ => some true
  | .int, _ => some false
  | .bool, .bool _ => some true
  | .bool, _ => some false
  | .tuple, .tuple _ => some true
  | .tuple, _ => some false
  | .list, .list _ => some true
  | .list, _ => some false
  | .str, .str _ => some true
  | .str, _ => some false
  | _, _ => none
def evIsi (sub : Nat → Nat → Bool) (S : Store) (t : Ty) (p : PV) : Option Bool :=
  match p with
  | .exc c _ => if sub c c then (match t with
    | .verr => some true
    | .cls d => if sub d d then some (sub c d) else none
    | _ => none) else none
  | p => match dataOf S p with
    | some d => tyD t d
    | none => none
/-- a cell of an elder frame takes plain values alone -/
def mayHold (n0 k : Nat) (p : PV) : Bool := decide (n0 ≤ k) || p.pure
def evMe (n0 : Nat) (S : Store) (m : Me) (o : PV) (ps : List PV) : Option (PV × Store) :=
  match o with
  | .loc k => match S[k]? with
    | some (.lst xs) => match m, ps with
      | .append, [p] => if xs.length < big ∧ mayHold n0 k p then some (.non, S.set k (.lst (xs ++ [p]))) else none
      | .extend, [p] => if isLs p then (match seqOf S p with
        | some ys => if xs.length + ys.length ≤ big ∧ ys.all (mayHold n0 k) then some (.non, S.set k (.lst (xs ++ ys))) else none
        | none => none) else none
      | .popAt, [.int i] => if -(2 ^ 63) ≤ i ∧ i < 2 ^ 63 then (match place xs.length i with
        | some j => match xs[j]? with
          | some y => some (y, S.set k (.lst (xs.eraseIdx j)))
          | none => none
        | none => none) else none
      | _, _ => none
    | none => none
  | _ => none
mutual
def Tgt.set : Tgt → PV → Rho → Option Rho
  | .name i, p, ρ => some (ρ.set i (some p))
  | .tup ts, .tup ps, ρ => Tgt.sets ts ps ρ
  | .tup _, _, _ => none
def Tgt.sets : List Tgt → List PV → Rho → Option Rho
  | [], [], ρ => some ρ
  | t :: ts, p :: ps, ρ => match Tgt.set t p ρ with
    | some ρ' => Tgt.sets ts ps ρ'
    | none => none
  | _, _, _ => none
end
mutual
def Tgt.ix : Tgt → List Nat
  | .name i => [i]
  | .tup ts => Tgt.ixs ts
def Tgt.ixs : List Tgt → List Nat
  | [] => []
  | t :: ts => t.ix ++ Tgt.ixs ts
end
def wipeE (ρ : Rho) : List Nat → Rho
  | [] => ρ
  | i :: r => (wipeE ρ r).set i none
/-- the items of a comprehension -/
def compGo (step : PV → Store → Out (Option PV)) : List PV → Store → Out (List PV)
  | [], S => .ok [] S
  | x :: xs, S => match step x S with
    | .ok y S1 => match compGo step xs S1 with
      | .ok ys S2 => .ok (match y with
        | some y => y :: ys
        | none => ys) S2
      | _ => .bad
    | _ => .bad
def rngs (lo : Int) : Nat → List PV
  | n => (List.range n).map fun (i : Nat) => PV.int (lo + i)

structure Pg where
  fns : Nat → Option Fn
  sub : Nat → Nat → Bool
  gls : Nat → Option Int

section
variable (P : Pg) (cf : Nat → List PV → Store → Out RV) (n0 : Nat)
mutual
def evalE : IE → Rho → Store → Out RV
  | .cst p, _, S => .ok (.v p) S
  | .var i, ρ, S => match ρ[i]? with
    | some (some p) => .ok (.v p) S
    | _ => .bad
  | .gl g, _, S => match P.gls g with
    | some i => .ok (.v (.int i)) S
    | none => .bad
  | .tup es, ρ, S => (evalEs es ρ S).bind fun ps S1 => .ok (.v (.tup ps)) S1
  | .lst es, ρ, S => (evalEs es ρ S).bind fun ps S1 => .ok (.f (.lst ps)) S1
  | .bin o a b, ρ, S => (evalE a ρ S).bind fun p S1 => (evalE b ρ S1).bind fun q S2 => match evBin S2 o p.fz q.fz with
    | some r => .ok r S2
    | none => .bad
  | .neg a, ρ, S => (evalE a ρ S).bind fun p S1 => match p with
    | .v (.int i) => .ok (.v (.int (-i))) S1
    | _ => .bad
  | .not a, ρ, S => (evalE a ρ S).bind fun p S1 => match p with
    | .v (.bl b) => .ok (.v (.bl (!b))) S1
    | _ => .bad
  | .and a b, ρ, S => (evalE a ρ S).bind fun p S1 => match p with
    | .v (.bl true) => (evalE b ρ S1).bind fun q S2 => match q with
      | .v (.bl c) => .ok (.v (.bl c)) S2
      | _ => .bad
    | .v (.bl false) => .ok (.v (.bl false)) S1
    | _ => .bad
  | .or a b, ρ, S => (evalE a ρ S).bind fun p S1 => match p with
    | .v (.bl false) => (evalE b ρ S1).bind fun q S2 => match q with
      | .v (.bl c) => .ok (.v (.bl c)) S2
      | _ => .bad
    | .v (.bl true) => .ok (.v (.bl true)) S1
    | _ => .bad
  | .cmp o a b, ρ, S => (evalE a ρ S).bind fun p S1 => (evalE b ρ S1).bind fun q S2 => match evCmp S2 o p.fz q.fz with
    | some c => .ok (.v (.bl c)) S2
    | none => .bad
  | .chain o o' a b c, ρ, S => (evalE a ρ S).bind fun p S1 => (evalE b ρ S1).bind fun q S2 => match evCmp S2 o p.fz q.fz with
    | some true => (evalE c ρ S2).bind fun r S3 => match evCmp S3 o' q.fz r.fz with
      | some d => .ok (.v (.bl d)) S3
      | none => .bad
    | some false => .ok (.v (.bl false)) S2
    | none => .bad
  | .ite c a b, ρ, S => (evalE c ρ S).bind fun p S1 => match p with
    | .v (.bl true) => evalE a ρ S1
    | .v (.bl false) => evalE b ρ S1
    | _ => .bad
  | .idx a b, ρ, S => (evalE a ρ S).bind fun p S1 => (evalE b ρ S1).bind fun q S2 => match evIdx S2 p.fz q.fz with
    | some r => .ok (.v r) S2
    | none => .bad
  | .sl a lo hi, ρ, S => (evalE a ρ S).bind fun p S1 => (evalO lo ρ S1).bind fun l S2 => (evalO hi ρ S2).bind fun h S3 => match evSl S3 p.fz l h with
    | some r => .ok r S3
    | none => .bad
  | .call f es, ρ, S => (evalEs es ρ S).bind fun ps S1 => cf f ps S1
  | .mk c e, ρ, S => (evalE e ρ S).bind fun p S1 => .ok (.v (.exc c p.fz)) S1
  | .bi b es, ρ, S => (evalEs es ρ S).bind fun ps S1 => match evBi S1 b ps with
    | some r => .ok r S1
    | none => .bad
  | .isi a t, ρ, S => (evalE a ρ S).bind fun p S1 => match evIsi P.sub S1 t p.fz with
    | some b => .ok (.v (.bl b)) S1
    | none => .bad
  | .meth m o es, ρ, S => (evalE o ρ S).bind fun p S1 => if isLoc p.fz then (evalEs es ρ S1).bind fun ps S2 => (match evMe n0 S2 m p.fz ps with
    | some (r, S3) => .ok (.v r) S3
    | none => .bad) else .bad
  | .val o, ρ, S => (evalE o ρ S).bind fun p S1 => match p with
    | .v (.exc c q) => if P.sub c c then .ok (.v q) S1 else .bad
    | _ => .bad
  | .alloc e, ρ, S => (evalE e ρ S).bind fun p S1 => match p with
    | .f c => .ok (.v (.loc S1.length)) (S1 ++ [c])
    | .v _ => .bad
  | .dct0, _, S => .ok (.v (.dct [] [])) S
  | .dct1 k e, ρ, S => (evalE k ρ S).bind fun a S1 => (evalE e ρ S1).bind fun r S2 => if isKey a.fz then .ok (.v (.dct [a.fz] [r.fz])) S2 else .bad
  | .comp own tg it cond elt, ρ, S => (evalE it ρ S).bind fun p S1 => match seqOf S1 p.fz with
    | some xs => match compGo (fun x S2 => if sameSeq S2 p.fz xs then (match Tgt.set tg x (wipeE ρ own) with
        | some ρ' => (evalC cond ρ' S2).bind fun b S3 => if b then (evalE elt ρ' S3).bind fun r S4 => .ok (some r.fz) S4 else .ok none S3
        | none => .bad) else .bad) xs S1 with
      | .ok ys S2 => if sameSeq S2 p.fz xs then .ok (.f (.lst ys)) S2 else .bad
      | _ => .bad
    | none => .bad
  | .rng es, ρ, S => (evalEs es ρ S).bind fun ps S1 => match ps with
    | [.int n] => if -(2 ^ 62) ≤ n ∧ n ≤ big then .ok (.f (.lst (rngs 0 n.toNat))) S1 else .bad
    | [.int a, .int b] => if (-(2 ^ 62) ≤ a ∧ a < 2 ^ 62 ∧ -(2 ^ 62) ≤ b ∧ b < 2 ^ 62) ∧ b - a ≤ big then .ok (.f (.lst (rngs a (b - a).toNat))) S1 else .bad
    | _ => .bad
def evalO : Option IE → Rho → Store → Out (Option Int)
  | none, _, S => .ok none S
  | some e, ρ, S => (evalE e ρ S).bind fun p S1 => match p with
    | .v (.int i) => .ok (some i) S1
    | _ => .bad
def evalC : Option IE → Rho → Store → Out Bool
  | none, _, S => .ok true S
  | some e, ρ, S => (evalE e ρ S).bind fun p S1 => match p with
    | .v (.bl b) => .ok b S1
    | _ => .bad
def evalEs : List IE → Rho → Store → Out (List PV)
  | [], _, S => .ok [] S
  | e :: es, ρ, S => (evalE e ρ S).bind fun p S1 => (evalEs es ρ S1).bind fun ps S2 => .ok (p.fz :: ps) S2
end
end
/-! ### statements -/
inductive SO where
  | nx (ρ : Rho) (S : Store) | rt (r : RV) (S : Store) | bk (ρ : Rho) (S : Store) | ct (ρ : Rho) (S : Store) | exn (c : Nat) (v : PV) (ρ : Rho) (S : Store) | bad
  deriving Inhabited
def SO.of {α : Type} (o : Out α) (ρ : Rho) (k : α → Store → SO) : SO := match o with
  | .ok a S => k a S
  | .exn c v S => .exn c v ρ S
  | .bad => .bad
@[simp] theorem SO.of_ok {α : Type} (a : α) (S : Store) (ρ : Rho) (k : α → Store → SO) : SO.of (.ok a S) ρ k = k a S := rfl
@[simp] theorem SO.of_exn {α : Type} (c : Nat) (v : PV) (S : Store) (ρ : Rho) (k : α → Store → SO) : SO.of (.exn c v S) ρ k = .exn c v ρ S := rfl
def SO.seq (o : SO) (k : Rho → Store → SO) : SO := match o with
  | .nx ρ S => k ρ S
  | o => o
@[simp] theorem SO.seq_nx (ρ : Rho) (S : Store) (k : Rho → Store → SO) : (SO.nx ρ S).seq k = k ρ S := rfl
@[simp] theorem SO.seq_rt (r : RV) (S : Store) (k : Rho → Store → SO) : (SO.rt r S).seq k = .rt r S := rfl
@[simp] theorem SO.seq_exn (c : Nat) (v : PV) (ρ : Rho) (S : Store) (k : Rho → Store → SO) : (SO.exn c v ρ S).seq k = .exn c v ρ S := rfl
/-- a for's turns -/
def forGo (good : Store → Bool) (step : PV → Rho → Store → SO) : List PV → Rho → Store → SO
  | [], ρ, S => if good S then .nx ρ S else .bad
  | x :: xs, ρ, S => if good S then (match step x ρ S with
    | .nx ρ' S' => forGo good step xs ρ' S'
    | .ct ρ' S' => forGo good step xs ρ' S'
    | .bk ρ' S' => .nx ρ' S'
    | o => o) else .bad
def whileGo (test : Rho → Store → Out Bool) (body : Rho → Store → SO) : Nat → Rho → Store → SO
  | 0, _, _ => .bad
  | w + 1, ρ, S => SO.of (test ρ S) ρ fun b S1 => if b then (match body ρ S1 with
    | .nx ρ' S' => whileGo test body w ρ' S'
    | .ct ρ' S' => whileGo test body w ρ' S'
    | .bk ρ' S' => .nx ρ' S'
    | o => o) else .nx ρ S1
/-- a value for a name: a new thing gets its cell -/
def bindR : RV → Store → PV × Store
  | .v p, S => (p, S)
  | .f c, S => (.loc S.length, S ++ [c])
def putAt (n0 : Nat) (S : Store) (o i v : PV) : Option Store :=
  match o, i with
  | .loc k, .int j => match S[k]? with
    | some (.lst xs) => match place xs.length j with
      | some m => if mayHold n0 k v then some (S.set k (.lst (xs.set m v))) else none
      | none => none
    | none => none
  | _, _ => none
section
variable (P : Pg) (cf : Nat → List PV → Store → Out RV) (n0 w : Nat)
def evalT (e : IE) (ρ : Rho) (S : Store) : Out Bool := (evalE P cf n0 e ρ S).bind fun p S1 => match p with
  | .v (.bl b) => .ok b S1
  | _ => .bad
mutual
def execS : IS → Rho → Store → SO
  | .doc, ρ, S => .nx ρ S
  | .asg i e, ρ, S => SO.of (evalE P cf n0 e ρ S) ρ fun r S1 => .nx (ρ.set i (some (bindR r S1).1)) (bindR r S1).2
  | .asgT tg e, ρ, S => SO.of (evalE P cf n0 e ρ S) ρ fun r S1 => match Tgt.set tg r.fz ρ with
    | some ρ' => .nx ρ' S1
    | none => .bad
  | .par i j a b, ρ, S => SO.of (evalE P cf n0 a ρ S) ρ fun r S1 => SO.of (evalE P cf n0 b ρ (bindR r S1).2) ρ fun q S2 =>
      .nx ((ρ.set i (some (bindR r S1).1)).set j (some (bindR q S2).1)) (bindR q S2).2
  | .sub o i e, ρ, S => SO.of (evalE P cf n0 e ρ S) ρ fun r S1 => SO.of (evalE P cf n0 o ρ S1) ρ fun p S2 => SO.of (evalE P cf n0 i ρ S2) ρ fun q S3 =>
      match putAt n0 S3 p.fz q.fz r.fz with
      | some S4 => .nx ρ S4
      | none => .bad
  | .ex e, ρ, S => SO.of (evalE P cf n0 e ρ S) ρ fun _ S1 => .nx ρ S1
  | .ret e, ρ, S => SO.of (evalE P cf n0 e ρ S) ρ fun r S1 => .rt r S1
  | .ifs c a b, ρ, S => SO.of (evalT P cf n0 c ρ S) ρ fun t S1 => if t then execSs a ρ S1 else execSs b ρ S1
  | .for_ tg it b, ρ, S => SO.of (evalE P cf n0 it ρ S) ρ fun p S1 => match seqOf S1 p.fz with
    | some xs => forGo (fun S2 => sameSeq S2 p.fz xs) (fun x ρ2 S2 => match Tgt.set tg x ρ2 with
      | some ρ' => execSs b ρ' S2
      | none => .bad) xs ρ S1
    | none => .bad
  | .while_ c b, ρ, S => whileGo (evalT P cf n0 c) (execSs b) w ρ S
  | .rs c e, ρ, S => SO.of (evalE P cf n0 e ρ S) ρ fun r S1 => .exn c r.fz ρ S1
  | .tr b c i h, ρ, S => match execSs b ρ S with
    | .exn d v ρ' S' => if P.sub d c then (execSs h (ρ'.set i (some (.exc d v))) S').seq fun ρ2 S2 => .nx (ρ2.set i none) S2 else .exn d v ρ' S'
    | o => o
def execSs : List IS → Rho → Store → SO
  | [], ρ, S => .nx ρ S
  | s :: r, ρ, S => (execS s ρ S).seq fun ρ' S' => execSs r ρ' S'
end
end
/-- what leaves a def -/
def close (n0 : Nat) : RV → Store → Out RV
  | .v p, S => if p.pure then .ok (.v p) (S.take n0) else match p with
    | .loc k => if k < n0 then .ok (.v (.loc k)) (S.take n0) else match S[k]? with
      | some (.lst xs) => (match PV.substs (cellVal S (fun j => decide (n0 ≤ j) && !(j == k)) 6) xs with
        | some ys => .ok (.f (.lst ys)) (S.take n0)
        | none => .bad)
      | none => .bad
    | p => match p.subst (cellVal S (fun j => decide (n0 ≤ j)) 6) with
      | some q => .ok (.v q) (S.take n0)
      | none => .bad
  | .f (.lst xs), S => if PV.pures xs then .ok (.f (.lst xs)) (S.take n0) else match PV.substs (cellVal S (fun j => decide (n0 ≤ j)) 6) xs with
    | some ys => .ok (.f (.lst ys)) (S.take n0)
    | none => .bad
def closeS (n0 : Nat) : SO → Out RV
  | .nx _ S => close n0 (.v .non) S
  | .rt r S => close n0 r S
  | .exn c v _ S => if v.pure then .exn c v (S.take n0) else .bad
  | _ => .bad
def callF (P : Pg) (w : Nat) : Nat → Nat → List PV → Store → Out RV
  | 0, _, _, _ => .bad
  | n + 1, f, args, S => match P.fns f with
    | some fn => if args.length = fn.params then closeS S.length (execSs P (callF P w n) S.length w fn.body (args.map some ++ List.replicate (fn.slots - fn.params) none) S) else .bad
    | none => .bad
end Ip

/-! IpRel: values of the evaluator and what stands in the abstract heap. -/
namespace Ip
open PySem PySem.Spec PyProof.Rows L2  -- so

/-! ### what a piece of text wants, as it is -/
section
variable (X : Cx)
def wE (e : Expr) : TE := fun σ H Q => ∀ (pins : List (Addr × Obj)) (s : Shared), Inv X pins σ H s → wpAny (model X.prog X.w) X.A (eval e X.env) (EP X pins σ Q) X.xe s
def wT (e : Expr) : TT := fun σ H Q => ∀ (pins : List (Addr × Obj)) (s : Shared), Inv X pins σ H s → wpAny (model X.prog X.w) X.A (isTrue e X.env (eval e X.env)) (TP X pins σ Q) X.xe s
def wA (es : List Expr) : TA := fun σ H Q => ∀ (pos : Pos) (pins : List (Addr × Obj)) (s : Shared), Inv X pins σ H s → wpAny (model X.prog X.w) X.A (spliced (backTo pos (starEach es X.env))) (AP X pins σ Q) X.xe s
def wS (st : Stmt) : TS := fun D σ H => ∀ (pins : List (Addr × Obj)) (s : Shared), Inv X pins σ H s → wpAny (model X.prog X.w) X.A (exec st X.env) (SP X pins D) X.xe s
def wSs (st : List Stmt) : TS := fun D σ H => ∀ (pins : List (Addr × Obj)) (s : Shared), Inv X pins σ H s → wpAny (model X.prog X.w) X.A (execs st X.env) (SP X pins D) X.xe s
def wG (tg : Expr) : TG := fun v σ H (Q : L2.St → Hp → Prop) => ∀ (pins : List (Addr × Obj)) (s : Shared) (u : Value), Inv X pins σ H s → RelV v u → wpAny (model X.prog X.w) X.A (assign tg X.env u) (fun _ s' => ∃ σ' H', Inv X pins σ' H' s' ∧ Q σ' H') X.xe s
def wO (f : Value → Value → Sem Value) : R2 := fun x y H Q => ∀ (pins : List (Addr × Obj)) (s : Shared) (σ : L2.St) (v u : Value), Inv X pins σ H s → RelV x v → RelV y u → wpAny (model X.prog X.w) X.A (f v u) (EP X pins σ Q) X.xe s
def wI : R2 := fun x y H Q => ∀ (value slice : Expr) (pins : List (Addr × Obj)) (s : Shared) (σ : L2.St) (v u : Value), Inv X pins σ H s → RelV x v → RelV y u → subscripted slice false v u = operate [v, u] (getItem v u) → wpAny (model X.prog X.w) X.A (subscriptTail value slice v u) (EP X pins σ Q) X.xe s
def wC (f : Value) : List V → Hp → VK → Prop := fun xs H Q => ∀ (pins : List (Addr × Obj)) (s : Shared) (σ : L2.St) (us : List Value), Inv X pins σ H s → Vals xs us → wpAny (model X.prog X.w) X.A (call f us) (EP X pins σ Q) X.xe s
end
section
variable {X : Cx} {σ : L2.St} {H : Hp}
theorem pE (e : Expr) : PE X e (wE X e) := ⟨fun pins s _ _ _ I h => h pins s I⟩
theorem pT (e : Expr) : PT X e (wT X e) := ⟨fun pins s _ _ _ I h => h pins s I⟩
theorem pA (es : List Expr) : PA X es (wA X es) := ⟨fun pos pins s _ _ _ I h => h pos pins s I⟩
theorem pS (st : Stmt) : PS X st (wS X st) := ⟨fun pins s _ _ _ I h => h pins s I⟩
theorem pSs (st : List Stmt) : PSs X st (wSs X st) := ⟨fun pins s _ _ _ I h => h pins s I⟩
theorem pG (tg : Expr) : PG X tg (wG X tg) := ⟨fun pins s _ _ _ u _ I r h => h pins s u I r⟩
theorem oR (f : Value → Value → Sem Value) : OpR X f (wO X f) := fun pins s σ _ _ _ v u _ I rx ry h => h pins s σ v u I rx ry
theorem iR : IxR X (wI X) := fun value slice pins s σ _ _ _ v u _ I rx ry h hs => h value slice pins s σ v u I rx ry hs
theorem cR (f : Value) : CallR X f (wC X f) := fun pins s σ _ _ us _ I r h => h pins s σ us I r
theorem ofE {e : Expr} {t : TE} {Q : VK} (h : PE X e t) (q : t σ H Q) : wE X e σ H Q := fun pins s I => h.run pins s σ H Q I q
theorem ofT {e : Expr} {t : TT} {Q : Bool → Hp → Prop} (h : PT X e t) (q : t σ H Q) : wT X e σ H Q := fun pins s I => h.run pins s σ H Q I q
theorem ofA {es : List Expr} {t : TA} {Q : List V → Hp → Prop} (h : PA X es t) (q : t σ H Q) : wA X es σ H Q := fun pos pins s I => h.run pos pins s σ H Q I q
theorem ofS {st : Stmt} {t : TS} {D : Ends} (h : PS X st t) (q : t D σ H) : wS X st D σ H := fun pins s I => h.run pins s σ H D I q
theorem ofSs {st : List Stmt} {t : TS} {D : Ends} (h : PSs X st t) (q : t D σ H) : wSs X st D σ H := fun pins s I => h.run pins s σ H D I q
theorem ofG {tg : Expr} {t : TG} {v : V} {Q : L2.St → Hp → Prop} (h : PG X tg t) (q : t v σ H Q) : wG X tg v σ H Q := fun pins s u I r => h.run pins s σ H v u Q I r q
theorem ofO {f : Value → Value → Sem Value} {r : R2} {x y : V} {Q : VK} (h : OpR X f r) (q : r x y H Q) : wO X f x y H Q := fun pins s σ v u I rx ry => h pins s σ H x y v u Q I rx ry q
theorem ofI {r : R2} {x y : V} {Q : VK} (h : IxR X r) (q : r x y H Q) : wI X x y H Q := fun value slice pins s σ v u I rx ry hs => h value slice pins s σ H x y v u Q I rx ry q hs
theorem ofC {f : Value} {r : List V → Hp → VK → Prop} {xs : List V} {Q : VK} (h : CallR X f r) (q : r xs H Q) : wC X f xs H Q := fun pins s σ us I rv => h pins s σ H xs us Q I rv q
theorem wE.mono {e : Expr} {Q Q' : VK} (h : wE X e σ H Q) (q : ∀ v H', Q v H' → Q' v H') : wE X e σ H Q' := fun pins s I =>
  thn (h pins s I) fun _ _ ⟨v, H', I', r, z⟩ => ⟨v, H', I', r, q v H' z⟩
end

/-! ### values -/
def keyP : Key → PV
  | .inl i => .int i
  | .inr x => .str x
theorem keyP_pure (k : Key) : (keyP k).pure = true := by cases k <;> rfl
theorem keyP_pures : ∀ kvs : List (Key × V), PV.pures (kvs.map fun e => keyP e.1) = true
  | [] => rfl
  | e :: r => by rw [List.map_cons, PV.pures, keyP_pure, keyP_pures r]; rfl
mutual
inductive R (K : PySem.W.Frag) (ca : Nat → Addr) (G : Hp) (α : List Addr) : PV → V → Prop
  | non : R K ca G α .non .non
  | bl (b : Bool) : R K ca G α (.bl b) (.bl b)
  | int (i : Int) : R K ca G α (.int i) (.int i)
  | str (x : Str) : R K ca G α (.str x) (.str x)
  | tup {a : Addr} {vs : List V} {ps : List PV} : SqT K G a vs → Rs K ca G α ps vs → R K ca G α (.tup ps) (.ref a)
  | lst {a : Addr} {vs : List V} {ps : List PV} : G a = some (.lst vs) → Rs K ca G α ps vs → R K ca G α (.lst ps) (.ref a)
  | slst {a : Addr} {vs : List V} {ps : List PV} : SqL K G a vs → Rs K ca G α ps vs → R K ca G α (.slst ps) (.ref a)
  | dct {a : Addr} {kvs : List (Key × V)} {ps : List PV} : G a = some (.dK kvs) → Rs K ca G α ps (kvs.map (·.2)) → R K ca G α (.dct (kvs.map fun e => keyP e.1) ps) (.ref a)
  | loc {k : Nat} {a : Addr} : α[k]? = some a → R K ca G α (.loc k) (.ref a)
  | exc {c : Nat} {p : PV} {x : V} {a d : Addr} {φ : Heap → Prop} : G a = some (.ext φ) → (∀ h, φ h → ∃ (oe : Obj) (vs : Array Value), h.get? a = some oe ∧ oe.cls = .ref (ca c) ∧ oe.dict = some d ∧ oe.data = .fields vs) →
      G d = some (.xd [("value", x)]) → R K ca G α p x → R K ca G α (.exc c p) (.ref a)
inductive Rs (K : PySem.W.Frag) (ca : Nat → Addr) (G : Hp) (α : List Addr) : List PV → List V → Prop
  | nil : Rs K ca G α [] []
  | cons {p : PV} {ps : List PV} {v : V} {vs : List V} : R K ca G α p v → Rs K ca G α ps vs → Rs K ca G α (p :: ps) (v :: vs)
end
def Le (G G' : Hp) : Prop := ∀ a o, G a = some o → G' a = some o
theorem Le.refl (G : Hp) : Le G G := fun _ _ h => h
theorem Le.trans {G G' G2 : Hp} (h : Le G G') (h' : Le G' G2) : Le G G2 := fun a o e => h' a o (h a o e)
theorem Le.upd {G : Hp} {a : Addr} {o : HO} (h : G a = none) : Le G (upd G a o) := fun b x e => by
  rw [upd_ne (ne_of_none e h)]
  exact e
theorem Le.rd {G G' : Hp} {a : Addr} {u : HO} (h : Le G G') (r : Rd G a u) : Rd G' a u := r.elim (fun e => .inl (h _ _ e)) fun ⟨o, e⟩ => .inr ⟨o, h _ _ e⟩
theorem Le.sqL {K : PySem.W.Frag} {G G' : Hp} {a : Addr} {xs : List V} (h : Le G G') (r : SqL K G a xs) : SqL K G' a xs := r.elim (fun e => .inl (h.rd e)) .inr
theorem Le.sqT {K : PySem.W.Frag} {G G' : Hp} {a : Addr} {xs : List V} (h : Le G G') (r : SqT K G a xs) : SqT K G' a xs := r.elim (fun e => .inl (h.rd e)) .inr
def Pre (α α' : List Addr) : Prop := ∀ (k : Nat) (a : Addr), α[k]? = some a → α'[k]? = some a
theorem Pre.refl (α : List Addr) : Pre α α := fun _ _ h => h
theorem Pre.trans {α α' α2 : List Addr} (h : Pre α α') (h' : Pre α' α2) : Pre α α2 := fun k a e => h' k a (h k a e)
theorem Pre.app (α β : List Addr) : Pre α (α ++ β) := fun k a e => by
  rw [List.getElem?_append_left (List.getElem?_eq_some_iff.mp e).1]
  exact e
section
variable {K : PySem.W.Frag} {ca : Nat → Addr} {G G' F H : Hp} {α α' : List Addr}
mutual
theorem R.mono (hG : Le G G') (hα : Pre α α') : ∀ {p : PV} {v : V}, R K ca G α p v → R K ca G' α' p v
  | _, _, .non => .non
  | _, _, .bl b => .bl b
  | _, _, .int i => .int i
  | _, _, .str x => .str x
  | _, _, .tup h r => .tup (hG.sqT h) (Rs.mono hG hα r)
  | _, _, .lst h r => .lst (hG _ _ h) (Rs.mono hG hα r)
  | _, _, .slst h r => .slst (hG.sqL h) (Rs.mono hG hα r)
  | _, _, .dct h r => .dct (hG _ _ h) (Rs.mono hG hα r)
  | _, _, .loc h => .loc (hα _ _ h)
  | _, _, .exc h1 h2 h3 r => .exc (hG _ _ h1) h2 (hG _ _ h3) (R.mono hG hα r)
theorem Rs.mono (hG : Le G G') (hα : Pre α α') : ∀ {ps : List PV} {vs : List V}, Rs K ca G α ps vs → Rs K ca G' α' ps vs
  | _, _, .nil => .nil
  | _, _, .cons r t => .cons (R.mono hG hα r) (Rs.mono hG hα t)
end
theorem Rs.length : ∀ {ps : List PV} {vs : List V}, Rs K ca G α ps vs → ps.length = vs.length
  | _, _, .nil => rfl
  | _, _, .cons _ t => congrArg (· + 1) (Rs.length t)
theorem Rs.get : ∀ {ps : List PV} {vs : List V} {i : Nat} {v : V}, Rs K ca G α ps vs → vs[i]? = some v → ∃ p, ps[i]? = some p ∧ R K ca G α p v
  | _, _, _, _, .nil, h => by simp at h
  | _, _, 0, v, .cons r _, h => by
    obtain rfl : _ = v := by simpa using h
    exact ⟨_, rfl, r⟩
  | _, _, i + 1, v, .cons _ t, h => by
    obtain ⟨p, e, r⟩ := Rs.get (i := i) (v := v) t (by simpa using h)
    exact ⟨p, by simpa using e, r⟩
theorem Rs.get' : ∀ {ps : List PV} {vs : List V} {i : Nat} {p : PV}, Rs K ca G α ps vs → ps[i]? = some p → ∃ v, vs[i]? = some v ∧ R K ca G α p v
  | _, _, _, _, .nil, h => by simp at h
  | _, _, 0, p, .cons r _, h => by
    obtain rfl : _ = p := by simpa using h
    exact ⟨_, rfl, r⟩
  | _, _, i + 1, p, .cons _ t, h => by
    obtain ⟨v, e, r⟩ := Rs.get' (i := i) (p := p) t (by simpa using h)
    exact ⟨v, by simpa using e, r⟩
theorem Rs.append : ∀ {ps qs : List PV} {vs us : List V}, Rs K ca G α ps vs → Rs K ca G α qs us → Rs K ca G α (ps ++ qs) (vs ++ us)
  | _, _, _, _, .nil, s => s
  | _, _, _, _, .cons r t, s => .cons r (Rs.append t s)
theorem Rs.take : ∀ {ps : List PV} {vs : List V} (n : Nat), Rs K ca G α ps vs → Rs K ca G α (ps.take n) (vs.take n)
  | _, _, 0, _ => .nil
  | _, _, _ + 1, .nil => .nil
  | _, _, n + 1, .cons r t => .cons r (Rs.take n t)
theorem Rs.drop : ∀ {ps : List PV} {vs : List V} (n : Nat), Rs K ca G α ps vs → Rs K ca G α (ps.drop n) (vs.drop n)
  | _, _, 0, r => r
  | _, _, _ + 1, .nil => .nil
  | _, _, n + 1, .cons _ t => Rs.drop n t
theorem Rs.set {p : PV} {v : V} (r : R K ca G α p v) : ∀ {ps : List PV} {vs : List V} (i : Nat), Rs K ca G α ps vs → Rs K ca G α (ps.set i p) (vs.set i v)
  | _, _, _, .nil => .nil
  | _, _, 0, .cons _ t => .cons r t  -- so
  | _, _, i + 1, .cons q t => .cons q (Rs.set r i t)
theorem Rs.erase : ∀ {ps : List PV} {vs : List V} (i : Nat), Rs K ca G α ps vs → Rs K ca G α (ps.eraseIdx i) (vs.eraseIdx i)
  | _, _, _, .nil => .nil
  | _, _, 0, .cons _ t => t
  | _, _, i + 1, .cons q t => .cons q (Rs.erase i t)
theorem Rs.rep {ps : List PV} {vs : List V} (r : Rs K ca G α ps vs) : ∀ n : Nat, Rs K ca G α (List.replicate n ps).flatten (List.replicate n vs).flatten
  | 0 => .nil
  | n + 1 => by
    rw [List.replicate_succ, List.replicate_succ, List.flatten_cons, List.flatten_cons]  -- so
    exact r.append (Rs.rep r n)
theorem Rs.ints : ∀ {ps : List PV} {vs : List V} {ns : List Int}, Rs K ca G α ps vs → intsOf ps = some ns → vs = ns.map V.int
  | _, _, _, .nil, h => by
    cases h
    rfl
  | _, _, ns, .cons (p := p) r t, h => by
    cases r with
    | int i =>
      simp only [intsOf] at h
      cases e : intsOf _ with
      | none => rw [e] at h; cases h  -- so
      | some ms =>
        rw [e] at h
        cases h
        rw [Rs.ints t e]
        rfl
    | _ => simp [intsOf] at h
theorem Rs.bools : ∀ {ps : List PV} {vs : List V} {ns : List Bool}, Rs K ca G α ps vs → boolsOf ps = some ns → vs = ns.map V.bl
  | _, _, _, .nil, h => by
    cases h
    rfl
  | _, _, ns, .cons (p := p) r t, h => by
    cases r with
    | bl i =>
      simp only [boolsOf] at h
      cases e : boolsOf _ with
      | none => rw [e] at h; cases h  -- so
      | some ms =>
        rw [e] at h
        cases h
        rw [Rs.bools t e]
        rfl
    | _ => simp [boolsOf] at h
mutual
theorem R.pure {β : List Addr} : ∀ {p : PV} {v : V}, R K ca G α p v → p.pure = true → R K ca G β p v
  | _, _, .non, _ => .non
  | _, _, .bl b, _ => .bl b
  | _, _, .int i, _ => .int i
  | _, _, .str x, _ => .str x
  | _, _, .tup h r, q => .tup h (Rs.pure r (by simpa only [PV.pure] using q))
  | _, _, .lst h r, q => .lst h (Rs.pure r (by simpa only [PV.pure] using q))
  | _, _, .slst h r, q => .slst h (Rs.pure r (by simpa only [PV.pure] using q))
  | _, _, .dct h r, q => .dct h (Rs.pure r (by simp only [PV.pure, Bool.and_eq_true] at q; exact q.2))
  | _, _, .loc _, q => by simp only [PV.pure, Bool.false_eq_true] at q
  | _, _, .exc h1 h2 h3 r, q => .exc h1 h2 h3 (R.pure r (by simpa only [PV.pure] using q))
theorem Rs.pure {β : List Addr} : ∀ {ps : List PV} {vs : List V}, Rs K ca G α ps vs → PV.pures ps = true → Rs K ca G β ps vs
  | _, _, .nil, _ => .nil
  | _, _, .cons r t, q => by
    simp only [PV.pures, Bool.and_eq_true] at q
    exact .cons (R.pure r q.1) (Rs.pure t q.2)
end
/-- what a cell holds stands at its address -/
def CeR (K : PySem.W.Frag) (ca : Nat → Addr) (G : Hp) (α : List Addr) (H : Hp) (a : Addr) : Cell → Prop
  | .lst ps => ∃ vs, H a = some (.lst vs) ∧ Rs K ca G α ps vs
theorem CeR.mono {a : Addr} {c : Cell} (hG : Le G G') (hα : Pre α α') (h : CeR K ca G α H a c) : CeR K ca G' α' H a c := by
  cases c with
  | lst ps =>
    obtain ⟨vs, e, r⟩ := h
    exact ⟨vs, e, r.mono hG hα⟩
theorem CeR.there {a : Addr} {c : Cell} (h : CeR K ca G α H a c) : ∃ o, H a = some o := by
  cases c with
  | lst ps =>
    obtain ⟨vs, e, _⟩ := h
    exact ⟨_, e⟩
theorem CeR.at {H' : Hp} {a : Addr} {c : Cell} (h : CeR K ca G α H a c) (e : H' a = H a) : CeR K ca G α H' a c := by
  cases c with
  | lst ps =>
    obtain ⟨vs, z, r⟩ := h
    exact ⟨vs, e.trans z, r⟩
/-- the state: G what stays for ever, F what somebody else holds, the cells -/
structure Conc (K : PySem.W.Frag) (ca : Nat → Addr) (L : Nat → Prop) (G F : Hp) (α : List Addr) (S : Store) (H : Hp) : Prop where
  gh : Le G H
  fh : Le F H
  fg : ∀ a o, F a = some o → G a = none
  fa : ∀ a o, F a = some o → a ∉ α
  ag : ∀ a ∈ α, G a = none
  nd : α.Nodup
  len : α.length = S.length
  low : ∀ m, L m → m ≤ S.length
  cell : ∀ (k : Nat) (c : Cell) (a : Addr), S[k]? = some c → α[k]? = some a → CeR K ca G α H a c
  old : ∀ m, L m → ∀ (k : Nat) (c : Cell) (a : Addr), k < m → S[k]? = some c → α[k]? = some a → CeR K ca G (α.take m) H a c
def RVR (K : PySem.W.Frag) (ca : Nat → Addr) (G F : Hp) (α : List Addr) (H : Hp) : RV → V → Prop
  | .v p, v => R K ca G α p v
  | .f c, v => ∃ a, v = .ref a ∧ CeR K ca G α H a c ∧ a ∉ α ∧ G a = none ∧ F a = none
section
variable {S : Store} {L L' : Nat → Prop}
theorem Conc.new {p : Addr} {o : HO} (C : Conc K ca L G F α S H) (h : H p = none) : Conc K ca L G F α S (upd H p o) := by
  have ne : ∀ b o, H b = some o → b ≠ p := fun b o e => ne_of_none e h
  refine ⟨fun b o e => by rw [upd_ne (ne b o (C.gh b o e))]; exact C.gh b o e, fun b o e => by rw [upd_ne (ne b o (C.fh b o e))]; exact C.fh b o e, C.fg, C.fa, C.ag, C.nd, C.len, C.low, fun k c a h1 h2 => ?_, fun m hm k c a hk h1 h2 => ?_⟩
  · have q := C.cell k c a h1 h2
    obtain ⟨o', e⟩ := q.there
    exact q.at (upd_ne (ne a o' e))
  · have q := C.old m hm k c a hk h1 h2
    obtain ⟨o', e⟩ := q.there
    exact q.at (upd_ne (ne a o' e))
theorem Conc.gn {p : Addr} (C : Conc K ca L G F α S H) (h : H p = none) : G p = none := by
  cases e : G p with
  | none => rfl
  | some o => rw [C.gh _ _ e] at h; cases h
theorem Conc.fn {p : Addr} (C : Conc K ca L G F α S H) (h : H p = none) : F p = none := by
  cases e : F p with
  | none => rfl
  | some o => rw [C.fh _ _ e] at h; cases h
theorem Conc.there {a : Addr} (C : Conc K ca L G F α S H) (h : a ∈ α) : ∃ o, H a = some o := by
  obtain ⟨k, e⟩ := List.getElem?_of_mem h
  have hk : k < S.length := by
    rw [← C.len]
    exact (List.getElem?_eq_some_iff.mp e).1  -- so
  exact (C.cell k S[k] a (List.getElem?_eq_getElem hk) e).there
theorem Conc.an {p : Addr} (C : Conc K ca L G F α S H) (h : H p = none) : p ∉ α := fun m => by
  obtain ⟨o, e⟩ := C.there m
  rw [e] at h
  cases h
/-- a thing of its own is put among what stays -/
theorem Conc.fix {p : Addr} {o : HO} (C : Conc K ca L G F α S H) (h : H p = some o) (hg : G p = none) (hf : F p = none) (ha : p ∉ α) : Conc K ca L (upd G p o) F α S H := by
  refine ⟨fun b x e => ?_, C.fh, fun b x e => ?_, C.fa, fun b m => ?_, C.nd, C.len, C.low, fun k c a h1 h2 => (C.cell k c a h1 h2).mono (Le.upd hg) (Pre.refl _), fun m hm k c a hk h1 h2 => (C.old m hm k c a hk h1 h2).mono (Le.upd hg) (Pre.refl _)⟩
  · by_cases z : b = p
    · subst z
      rw [upd_same] at e
      cases e
      exact h
    · rw [upd_ne z] at e
      exact C.gh b x e
  · have z : b ≠ p := fun z => by
      subst z
      rw [hf] at e
      cases e
    rw [upd_ne z]
    exact C.fg b x e
  · have z : b ≠ p := fun z => by
      subst z
      exact ha m
    rw [upd_ne z]
    exact C.ag b m
/-- a new thing that stays -/
theorem Conc.newG {p : Addr} {o : HO} (C : Conc K ca L G F α S H) (h : H p = none) : Conc K ca L (upd G p o) F α S (upd H p o) :=
  (C.new h).fix upd_same (C.gn h) (C.fn h) (C.an h)
/-- a thing of its own gets its cell -/
theorem Conc.push {p : Addr} {c : Cell} (C : Conc K ca L G F α S H) (h : CeR K ca G α H p c) (hg : G p = none) (hf : F p = none) (ha : p ∉ α) : Conc K ca L G F (α ++ [p]) (S ++ [c]) H := by
  refine ⟨C.gh, C.fh, C.fg, fun b x e m => ?_, fun b m => ?_, ?_, by rw [List.length_append, List.length_append, C.len]; rfl, fun m hm => Nat.le_trans (C.low m hm) (by rw [List.length_append]; exact Nat.le_add_right _ _), fun k d a h1 h2 => ?_, fun m hm k d a hk h1 h2 => ?_⟩
  · rcases List.mem_append.mp m with m | m
    · exact C.fa b x e m
    · obtain rfl : b = p := by simpa using m
      rw [hf] at e
      cases e
  · rcases List.mem_append.mp m with m | m
    · exact C.ag b m
    · obtain rfl : b = p := by simpa using m
      exact hg
  · refine List.nodup_append.mpr ⟨C.nd, by simp, fun a ha' b hb z => ?_⟩
    obtain rfl : b = p := by simpa using hb
    subst z
    exact ha ha'
  · by_cases hk : k < S.length
    · rw [List.getElem?_append_left hk] at h1
      rw [List.getElem?_append_left (by rw [C.len]; exact hk)] at h2
      exact (C.cell k d a h1 h2).mono (Le.refl _) (Pre.app _ _)
    · have e : k = S.length := by
        have := (List.getElem?_eq_some_iff.mp h1).1
        rw [List.length_append] at this
        have : k < S.length + 1 := this
        omega
      subst e
      rw [List.getElem?_append_right (Nat.le_refl _), Nat.sub_self] at h1
      rw [List.getElem?_append_right (by rw [C.len]; exact Nat.le_refl _), C.len, Nat.sub_self] at h2
      obtain rfl : c = d := by simpa using h1
      obtain rfl : p = a := by simpa using h2
      exact h.mono (Le.refl _) (Pre.app _ _)
  · have hs : k < S.length := Nat.lt_of_lt_of_le hk (C.low m hm)
    rw [List.getElem?_append_left hs] at h1
    rw [List.getElem?_append_left (by rw [C.len]; exact hs)] at h2
    rw [List.take_append_of_le_length (by rw [C.len]; exact C.low m hm)]
    exact C.old m hm k d a hk h1 h2
/-- a cell is written -/
theorem Conc.write {k : Nat} {a : Addr} {o : HO} {c : Cell} (C : Conc K ca L G F α S H) (hk : α[k]? = some a) (h : CeR K ca G α (upd H a o) a c) (h0 : ∀ m, L m → k < m → CeR K ca G (α.take m) (upd H a o) a c) : Conc K ca L G F α (S.set k c) (upd H a o) := by
  have m : a ∈ α := List.mem_of_getElem? hk
  have hg := C.ag a m
  refine ⟨fun b x e => ?_, fun b x e => ?_, C.fg, C.fa, C.ag, C.nd, by rw [List.length_set]; exact C.len, fun m hm => by rw [List.length_set]; exact C.low m hm, fun j d b h1 h2 => ?_, fun m hm j d b hj h1 h2 => ?_⟩
  · have z : b ≠ a := fun z => by
      subst z
      rw [hg] at e
      cases e
    rw [upd_ne z]
    exact C.gh b x e
  · have z : b ≠ a := fun z => by
      subst z
      exact C.fa b x e m
    rw [upd_ne z]
    exact C.fh b x e
  · by_cases e : j = k
    · subst e
      rw [hk] at h2
      cases h2
      have hj : j < S.length := by
        rw [← C.len]
        exact (List.getElem?_eq_some_iff.mp hk).1
      rw [List.getElem?_set_self hj] at h1
      cases h1
      exact h
    · rw [List.getElem?_set_ne (Ne.symm e)] at h1
      have z : b ≠ a := fun z => by
        subst z
        obtain ⟨i1, e1⟩ := List.getElem?_eq_some_iff.mp hk
        obtain ⟨i2, e2⟩ := List.getElem?_eq_some_iff.mp h2
        exact e ((List.getElem_inj C.nd).mp (e2.trans e1.symm))
      exact (C.cell j d b h1 h2).at (upd_ne z)
  · by_cases e : j = k
    · subst e
      rw [hk] at h2
      cases h2
      have hj' : j < S.length := by
        rw [← C.len]
        exact (List.getElem?_eq_some_iff.mp hk).1
      rw [List.getElem?_set_self hj'] at h1
      cases h1
      exact h0 m hm hj
    · rw [List.getElem?_set_ne (Ne.symm e)] at h1
      have z : b ≠ a := fun z => by
        subst z
        obtain ⟨i1, e1⟩ := List.getElem?_eq_some_iff.mp hk
        obtain ⟨i2, e2⟩ := List.getElem?_eq_some_iff.mp h2
        exact e ((List.getElem_inj C.nd).mp (e2.trans e1.symm))
      exact (C.old m hm j d b hj h1 h2).at (upd_ne z)
/-- a result, from now on by value -/
theorem Conc.fz {r : RV} {v : V} (C : Conc K ca L G F α S H) (h : RVR K ca G F α H r v) : ∃ G', Le G G' ∧ Conc K ca L G' F α S H ∧ R K ca G' α r.fz v := by
  cases r with
  | v p => exact ⟨G, Le.refl _, C, h⟩
  | f c =>
    obtain ⟨a, rfl, hc, ha, hg, hf⟩ := h
    cases c with
    | lst ps =>
      obtain ⟨vs, e, r⟩ := hc
      exact ⟨upd G a (.lst vs), Le.upd hg, C.fix e hg hf ha, .lst upd_same (r.mono (Le.upd hg) (Pre.refl _))⟩
theorem R.seq {p : PV} {v : V} {xs : List PV} (C : Conc K ca L G F α S H) (r : R K ca G α p v) (h : seqOf S p = some xs) : ∃ a vs, v = .ref a ∧ ((SqL K H a vs ∧ isT p = false) ∨ (SqT K H a vs ∧ p = .tup xs)) ∧ Rs K ca G α xs vs := by
  cases r with
  | tup h1 t =>
    cases h
    exact ⟨_, _, rfl, .inr ⟨C.gh.sqT h1, rfl⟩, t⟩
  | lst h1 t =>
    cases h
    exact ⟨_, _, rfl, .inl ⟨.inl (.inl (C.gh _ _ h1)), rfl⟩, t⟩
  | slst h1 t =>
    cases h
    exact ⟨_, _, rfl, .inl ⟨C.gh.sqL h1, rfl⟩, t⟩
  | loc hk =>
    rename_i k a
    simp only [seqOf] at h
    cases e : S[k]? with
    | none => rw [e] at h; cases h  -- so
    | some c =>
      cases c with
      | lst ys =>
        rw [e] at h
        cases h
        obtain ⟨vs, e2, t⟩ := C.cell k _ a e hk
        exact ⟨a, vs, rfl, .inl ⟨.inl (.inl e2), rfl⟩, t⟩
  | non => cases h
  | bl => cases h
  | int => cases h
  | str => cases h
  | exc => cases h
  | dct => cases h
theorem R.seqL {p : PV} {v : V} {xs : List PV} (C : Conc K ca L G F α S H) (r : R K ca G α p v) (l : isLs p = true) (h : seqOf S p = some xs) : ∃ a vs, v = .ref a ∧ H a = some (.lst vs) ∧ Rs K ca G α xs vs := by
  cases r with
  | tup h1 t => cases l
  | lst h1 t =>
    cases h
    exact ⟨_, _, rfl, C.gh _ _ h1, t⟩
  | slst h1 t => cases l
  | loc hk =>
    rename_i k a
    simp only [seqOf] at h
    cases e : S[k]? with
    | none => rw [e] at h; cases h  -- so
    | some c =>
      cases c with
      | lst ys =>
        rw [e] at h
        cases h
        obtain ⟨vs, e2, t⟩ := C.cell k _ a e hk
        exact ⟨a, vs, rfl, e2, t⟩
  | non => cases h
  | bl => cases h
  | int => cases h
  | str => cases h
  | exc => cases h
  | dct => cases h
end
end
end Ip

/-! IpFn: defs that are called while no text of a nested thing is being made (so that repr may be used), and the law's own call. -/
namespace Ip
open PySem PySem.Spec PyProof.Rows L2  -- so

/-- what the def at f promises, at most k calls deep, while nothing is being shown -/
structure FnG (P : Program) (w : World) (K : PySem.W.Frag) (mg : Str → Option Value) (base : Heap) (k : Nat) (f : Addr) (fd : FuncData) (ps : List Str) (sp : Sp) : Prop where
  len : ∀ vs H Q E, sp vs H Q E → vs.length = ps.length  -- so
  go : ∀ (B : Around) (out : List Env) (s : Shared) (H : Hp) (ar : Args) (us : List Value) (vs : List V) (Q : VK) (E : XK), B.guards = some [] → Room k B → Env0 P w K mg base B out s H → BindsTo s fd ar (ps.zip us) → Vals vs us → sp vs H Q E →
    codeAny (model P w) B (.call (.ref f) ar) (CR (L2.CX P w) out P w H s Q E) s
section
variable {P : Program} {w : World} {K : PySem.W.Frag} {mg : Str → Option Value} {base : Heap} {k j : Nat} {f : Addr} {fd : FuncData} {ps N : List Str} {sp : Sp}
theorem FnG.mono (F : FnG P w K mg base j f fd ps sp) (h : j ≤ k) : FnG P w K mg base k f fd ps sp :=
  ⟨F.len, fun B out s H ar us vs Q E g r => F.go B out s H ar us vs Q E g (r.mono h)⟩
theorem FnG.imp {sp' : Sp} (F : FnG P w K mg base k f fd ps sp) (h : ∀ vs H Q E, sp' vs H Q E → sp vs H Q E) : FnG P w K mg base k f fd ps sp' :=
  ⟨fun vs H Q E q => F.len vs H Q E (h _ _ _ _ q), fun B out s H ar us vs Q E g r e b v q => F.go B out s H ar us vs Q E g r e b v (h _ _ _ _ q)⟩
/-- a def of the text by its body -/
theorem fnG_of {x q : Str} {st : Stmt} (F : Fun K x q st f fd) (S : FnScope N ps (defScope st)) (len : ∀ vs H Q E, sp vs H Q E → vs.length = ps.length)
    (body : ∀ (cv : Value) (B : Around) (out : List Env) (s : Shared) (H : Hp) (vs : List V) (Q : VK) (E : XK), B.guards = some [] → Room k (B.deeper (envOfC q (defScope st) s.heap.objs.size f cv)) → sp vs H Q E →
      wSs (cxOf (L2.CX P w) P w K mg base N q (defScope st) f cv B out s H E) (defBody st) { nx := fun _ H' => Q .non H', rt := Q } (start N vs) H) :
    FnG P w K mg base (k + 1) f fd ps sp := by
  obtain ⟨oc, od, kV, doc, pm, an, cv, ct, osl, rfl, lk, hc⟩ := F.ex
  refine ⟨len, fun B out s H ar us vs Q E hg room e0 hb rv hs => ?_⟩
  have inK : K.In s.heap := e0.mod.kin.keeps fun b o z => (e0.bs b o z).1
  have free : s.heap.NoLimit := e0.mod.nolimit.keeps fun b o z => (e0.bs b o z).1
  refine codeAny_call_function room.depth (inK _ _ lk) rfl S.co S.gen rfl (PySem.W.codeRec_of inK hc) (hb _ _ _ _ ?_)
  refine wpAny_newFunctionEnv_cells S.kind (fun y hy => ?_) fun env he s1 ic => ?_
  · obtain ⟨n, u⟩ := y
    exact (S.par n (List.of_mem_zip hy).1).elim .inl fun z => .inr ⟨z, PySem.W.cellsFrom_some _ _ _ (.inl z)⟩
  · subst he
    refine ⟨free.keeps ic.toInCall.keep, codeAny_func ?_⟩
    have I : L2.Inv (cxOf (L2.CX P w) P w K mg base N q (defScope st) f cv B out s H E) [] (start N vs) H s1 := inv_start S room.hd e0 (len _ _ _ _ hs) rv ic
    refine wpAny_mono (body cv B out s H vs Q E hg (room.deeper _) hs [] s1 I) (fun fl s2 h2 => ?_) fun _ _ h2 => h2
    cases fl with
    | ret u =>
      obtain ⟨v, σ2, H2, J, r2, z⟩ := h2
      exact ⟨v, H2, J.os, J.bare, J.base, J.hok, r2, z⟩
    | next =>
      obtain ⟨σ2, H2, J, z⟩ := h2
      exact ⟨.non, H2, J.os, J.bare, J.base, J.hok, rfl, z⟩
    | brk => exact h2.elim fun _ h3 => h3.elim fun _ h4 => h4.2.elim
    | cont => exact h2.elim fun _ h3 => h3.elim fun _ h4 => h4.2.elim
end
section
variable {X : Cx} {k : Nat} {f : Addr} {fd : FuncData} {ps : List Str} {sp : Sp} {W : WX} {x : Str} {e : Expr} {es : List Expr} {p pos : Pos} {σ : L2.St} {H : Hp} {Q : VK}
/-- the callee runs -/
theorem runG {pins : List (Addr × Obj)} {s : Shared} {us : List Value} {vs : List V} (F : FnG X.prog X.w X.K X.mg X.base k f fd ps sp) (g : X.A.guards = some []) (hr : Room k X.A) (hb : Binds X.K fd ps []) (tk : Takes X W)
    (I : L2.Inv X pins σ H s) (r : Vals vs us) (h : sp vs H Q fun c d H' => W c d σ H') : wpAny (model X.prog X.w) X.A (call (.ref f) us) (EP X pins σ Q) X.xe s := by
  have b := hb s us I.kIn (by rw [List.append_nil, ← r.length, F.len _ _ _ _ h])
  rw [List.append_nil] at b
  refine wpAny_call (codeAny_mono (F.go X.A X.stack s H ⟨us, []⟩ us vs Q _ g hr I.env0 b r h) fun o s2 h2 => ?_)
  cases o with
  | error z => exact passAt tk σ pins H s z s2 I h2
  | ok fl =>
    cases fl with
    | ret u => exact I.after h2
    | next => exact h2.elim
    | brk => exact h2.elim
    | cont => exact h2.elim
theorem callG (F : FnG X.prog X.w X.K X.mg X.base k f fd ps sp) (g : X.A.guards = some []) (hr : Room k X.A) (hb : Binds X.K fd ps []) (tk : Takes X W) (hg : Gl X x) (hm : X.mg x = some (.ref f)) (hk : PySem.W.keepIn X.K (.ref f) = true)
    (hd : (x == ("__debug__" : Str)) = false) (hs : starEach (e :: es) X.env = (false, eval e X.env) :: starEach es X.env) (hp : (backTo pos (starEach es X.env)).any (·.1) = false)
    (h : wA X (e :: es) σ H fun vs H1 => sp vs H1 Q fun c d H' => W c d σ H') : wE X (.Call (.Name x p) (e :: es) [] pos) σ H Q := by
  intro pins s I
  refine wpAny_Call_Name_kw (ld_glob I hg hm ?_ hd)  -- so
  refine PySem.W.callWith_K (h₀ := X.base) I.ok.mod.kin hk (thn (h pos pins s I) fun us s1 z => ?_) hs hp
  obtain ⟨vs, H1, I1, r, q⟩ := z
  exact ⟨I1.kIn, runG F g hr hb tk I1 r q⟩
theorem callG0 (F : FnG X.prog X.w X.K X.mg X.base k f fd ps sp) (g : X.A.guards = some []) (hr : Room k X.A) (hb : Binds X.K fd ps []) (tk : Takes X W) (hg : Gl X x) (hm : X.mg x = some (.ref f)) (hk : PySem.W.keepIn X.K (.ref f) = true)
    (hd : (x == ("__debug__" : Str)) = false) (h : sp [] H Q fun c d H' => W c d σ H') : wE X (.Call (.Name x p) [] [] pos) σ H Q := by
  intro pins s I
  refine wpAny_Call_Name_kw (ld_glob I hg hm ?_ hd)  -- so
  exact PySem.W.callWith_K0 I.kIn hk (runG (us := []) F g hr hb tk I .nil h)
end
end Ip

/-! IpOk: does a term match a piece of text; the context in which it runs. -/
namespace Ip
open PySem PySem.Spec PyProof.Rows L2  -- so

/-- the names that stand for defs, classes, constants -/
structure Tab where
  fnN : Nat → Option Str
  clN : Nat → Option Str
  glN : Nat → Option Str
abbrev Names := List (Str × NameKind)
def visB (nm : Names) (x : Str) : Bool := match nm.lookup x with
  | some .local => true
  | some .cell => true
  | some .free => true
  | _ => false
def locB (nm : Names) (x : Str) : Bool := match nm.lookup x with
  | some .local => true
  | some .cell => true
  | _ => false
def freB (nm : Names) (x : Str) : Bool := match nm.lookup x with
  | some .cell => true
  | some .free => true
  | _ => false
def lclB (nm : Names) (x : Str) : Bool := match nm.lookup x with
  | some .local => true
  | _ => false
def glbB (nm : Names) (x : Str) : Bool := match nm.lookup x with
  | some .globalImplicit => !(x == ("__debug__" : Str))
  | _ => false
def starless : Expr → Bool
  | .Starred _ _ => false
  | _ => true
def plainBase : Expr → Bool
  | .Call _ _ _ _ => false
  | _ => true
def noComp : Expr → Bool
  | .ListComp _ _ _ _ => false
  | .SetComp _ _ _ _ => false
  | .DictComp _ _ _ _ _ => false
  | _ => true
def noSet : Expr → Bool
  | .Set _ _ _ => false
  | _ => true
def noSlice : Expr → Bool
  | .Slice _ _ _ _ => false
  | _ => true
def biName : Bi → String
  | .len => "len" | .sum => "sum" | .all => "all" | .any => "any" | .tuple => "tuple" | .list => "list" | .int => "int" | .abs => "abs" | .max => "max" | .min => "min" | .repr => "repr"
def meName : Me → String
  | .append => "append" | .extend => "extend" | .popAt => "pop"
def okB : Bop → Operator → Bool
  | .add, .Add => true | .sub, .Sub => true | .mul, .Mult => true | .fdiv, .FloorDiv => true | .mod, .Mod => true | .pow, .Pow => true
  | _, _ => false
def okC : Cop → CmpOp → Bool
  | .eq, .Eq => true | .ne, .NotEq => true | .lt, .Lt => true | .le, .LtE => true | .gt, .Gt => true | .ge, .GtE => true | .is, .Is => true | .isnot, .IsNot => true | .mem, .In => true | .nmem, .NotIn => true
  | _, _ => false
mutual
def okT (N : List Str) (nm : Names) : Tgt → Expr → Bool
  | .name i, .Name x _ => decide (N[i]? = some x) && locB nm x
  | .tup ts, .Tuple es _ _ => okTs N nm ts es
  | _, _ => false
def okTs (N : List Str) (nm : Names) : List Tgt → List Expr → Bool
  | [], [] => true
  | t :: ts, e :: es => okT N nm t e && starless e && okTs N nm ts es
  | _, _ => false
end
def okBlk (N : List Str) (nm : Names) (sc : Scope) (own : List (Str × Nat)) : Bool :=
  (match sc.kind with | .function => true | _ => false) && (sc.names.all fun y => decide (sc.names.lookup y.1 = some y.2)) && (own.all fun p => decide (N[p.2]? = some p.1)) &&
    (sc.names.all fun y => match y.2 with
      | .free => freB nm y.1
      | .local => decide (y.1 ∈ own.map (·.1)) || decide (y.1 ∉ N)  -- so
      | .cell => decide (y.1 ∈ own.map (·.1)) || decide (y.1 ∉ N)  -- so
      | _ => true)
def ownOf (N : List Str) (own : List Nat) : List (Str × Nat) := own.map fun i => ((N[i]?).getD default, i)
/-- as a value, as a test, as what is walked -/
inductive Md where | e | t | i
abbrev Gx := Md → Names → IE → Expr → Bool
def okEs (g : Gx) (nm : Names) : List IE → List Expr → Bool
  | [], [] => true
  | e :: es, x :: xs => g .e nm e x && starless x && okEs g nm es xs
  | _, _ => false
def okO (g : Gx) (nm : Names) : Option IE → Option Expr → Bool
  | none, none => true
  | some e, some x => g .e nm e x
  | _, _ => false
def okCd (g : Gx) (nm : Names) : Option IE → List Expr → Bool
  | none, [] => true
  | some e, [x] => g .t nm e x
  | _, _ => false
def tyN (T : Tab) : Ty → Option Str
  | .int => some (Str.ofString "int") | .bool => some (Str.ofString "bool") | .tuple => some (Str.ofString "tuple") | .list => some (Str.ofString "list") | .str => some (Str.ofString "str")
  | .verr => some (Str.ofString "ValueError") | .cls c => T.clN c
def plainT : Expr → Bool
  | .UnaryOp .Not _ _ => false
  | .BoolOp _ _ _ => false
  | .IfExp _ _ _ _ => false
  | .Compare _ _ _ _ => false
  | _ => true
def isTup : Expr → Bool
  | .Tuple _ _ _ => true
  | _ => false
section
variable (T : Tab) (N : List Str)
def okE1 (g : Gx) (nm : Names) : IE → Expr → Bool
  | .cst p, x => (match p, x with
    | .non, .Constant .none _ _ => true
    | .bl b, .Constant (.bool c) _ _ => b == c
    | .int i, .Constant (.int j) _ _ => i == j
    | .str x, .Constant (.str y) _ _ => x == y
    | _, _ => false)
  | .var i, x => (match x with
    | .Name x _ => decide (N[i]? = some x) && visB nm x && !(x == ("__debug__" : Str)) && !(x == ("__classdict__" : Str))
    | _ => false)
  | .gl i, x => (match x with
    | .Name x _ => decide (T.glN i = some x) && glbB nm x
    | _ => false)
  | .tup es, x => (match x with
    | .Tuple xs _ _ => okEs g nm es xs && decide (es.length ≤ 1000)
    | _ => false)
  | .lst es, x => (match x with
    | .List xs _ => okEs g nm es xs && decide (es.length ≤ 1000)
    | _ => false)
  | .bin o a b, x => (match x with
    | .BinOp x p y _ => okB o p && g .e nm a x && g .e nm b y
    | _ => false)
  | .neg a, x => (match x with
    | .UnaryOp .USub x _ => g .e nm a x
    | _ => false)
  | .not a, x => (match x with
    | .UnaryOp .Not x _ => g .e nm a x
    | _ => false)
  | .and a b, x => (match x with
    | .BoolOp .And [x, y] _ => g .e nm a x && g .e nm b y
    | .BoolOp .And (x :: y :: z :: r) p => g .e nm a x && g .e nm b (.BoolOp .And (y :: z :: r) p)
    | _ => false)
  | .or a b, x => (match x with
    | .BoolOp .Or [x, y] _ => g .e nm a x && g .e nm b y
    | .BoolOp .Or (x :: y :: z :: r) p => g .e nm a x && g .e nm b (.BoolOp .Or (y :: z :: r) p)
    | _ => false)
  | .cmp o a b, x => (match x with
    | .Compare x [p] [y] _ => okC o p && g .e nm a x && g .e nm b y && !(behindInMarks p y)
    | _ => false)
  | .chain o o' a b c, x => (match x with
    | .Compare x [p, q] [y, z] _ => okC o p && okC o' q && g .e nm a x && g .e nm b y && g .e nm c z && !(lastMarks [p, q] [y, z])
    | _ => false)
  | .ite c a b, x => (match x with
    | .IfExp t x y _ => g .t nm c t && g .e nm a x && g .e nm b y
    | _ => false)
  | .idx a b, x => (match x with
    | .Subscript x y _ => g .e nm a x && g .e nm b y && noSlice y
    | _ => false)
  | .sl a lo hi, x => (match x with
    | .Subscript x (.Slice l h none _) _ => g .e nm a x && okO g nm lo l && okO g nm hi h
    | _ => false)
  | .call f es, x => (match x with
    | .Call (.Name x _) xs [] _ => decide (T.fnN f = some x) && glbB nm x && okEs g nm es xs
    | _ => false)
  | .mk c e, x => (match x with
    | .Call (.Name x _) [y] [] _ => decide (T.clN c = some x) && glbB nm x && g .e nm e y && starless y
    | _ => false)
  | .bi b es, x => (match x with
    | .Call (.Name x _) xs [] _ => decide (x = Str.ofString (biName b)) && glbB nm x && okEs g nm es xs
    | _ => false)
  | .isi a t, x => (match x with
    | .Call (.Name x _) [y, .Name z _] [] _ => decide (x = Str.ofString "isinstance") && glbB nm x && glbB nm z && g .e nm a y && starless y && decide (tyN T t = some z)
    | _ => false)
  | .meth m o es, x => (match x with
    | .Call (.Attribute x at_ ap) xs [] cp => decide (at_ = Str.ofString (meName m)) && g .e nm o x && okEs g nm es xs && plainBase x && (ap.endLine == cp.line) && decide (xs.length < 20) && decide (xs ≠ [])
    | _ => false)
  | .val o, x => (match x with
    | .Attribute x at_ _ => decide (at_ = Str.ofString "value") && g .e nm o x && plainBase x
    | _ => false)
  | .alloc e, x => g .e nm e x
  | .dct0, x => (match x with
    | .Dict [] [] _ => true
    | _ => false)
  | .dct1 k e, x => (match x with
    | .Dict [some x] [y] _ => g .e nm k x && g .e nm e y
    | _ => false)
  | .comp own tg it cond elt, x => (match x with
    | .ListComp ex [⟨t, i, ifs, a⟩] sc _ => decide (a = 0) && okBlk N nm sc (ownOf N own) && tg.ix.all (fun i => own.contains i) && g .i nm it i && noSet i && okT N sc.names tg t && okCd g sc.names cond ifs && g .e sc.names elt ex
    | _ => false)
  | .rng _, _ => false
def okT1 (g : Gx) (nm : Names) : IE → Expr → Bool
  | .not a, x => (match x with
    | .UnaryOp .Not x _ => g .t nm a x
    | _ => false)
  | .and a b, x => (match x with
    | .BoolOp .And [x, y] _ => g .t nm a x && g .t nm b y
    | .BoolOp .And (x :: y :: z :: r) p => g .t nm a x && g .t nm b (.BoolOp .And (y :: z :: r) p)
    | _ => false)
  | .or a b, x => (match x with
    | .BoolOp .Or [x, y] _ => g .t nm a x && g .t nm b y
    | .BoolOp .Or (x :: y :: z :: r) p => g .t nm a x && g .t nm b (.BoolOp .Or (y :: z :: r) p)
    | _ => false)
  | .cmp o a b, x => (match x with
    | .Compare x [p] [y] _ => okC o p && g .e nm a x && g .e nm b y && !(behindInMarks p y)
    | _ => false)
  | .chain o o' a b c, x => (match x with
    | .Compare x [p, q] [y, z] _ => okC o p && okC o' q && g .e nm a x && g .e nm b y && g .e nm c z && !(lastMarks [p, q] [y, z])
    | _ => false)
  | e, x => g .e nm e x && plainT x
/-- what is walked -/
def okI1 (g : Gx) (nm : Names) : IE → Expr → Bool
  | .rng es, x => (match x with
    | .Call (.Name x _) xs [] _ => decide (x = Str.ofString "range") && glbB nm x && okEs g nm es xs && decide (xs.length ≤ 2)
    | _ => false)
  | e, x => g .e nm e x
def okX : Nat → Gx
  | 0, _, _, _, _ => false
  | f + 1, .e, nm, e, x => okE1 T N (okX f) nm e x
  | f + 1, .t, nm, e, x => okT1 (okX f) nm e x
  | f + 1, .i, nm, e, x => okI1 (okX f) nm e x
def okSs (h : IS → Stmt → Bool) : List IS → List Stmt → Bool
  | [], [] => true
  | s :: r, x :: xs => h s x && okSs h r xs
  | _, _ => false
def okS1 (g : Gx) (nm : Names) (h : IS → Stmt → Bool) : IS → Stmt → Bool
  | .doc, x => (match x with
    | .Expr (.Constant (.str _) _ _) _ => true
    | _ => false)
  | .asg i e, x => (match x with
    | .Assign [.Name x xp] y _ => decide (N[i]? = some x) && (noComp y && locB nm x && g .e nm e y || (match e, y with
      | .comp own tg it cond elt, .ListComp ex [⟨t, ie, ifs, a⟩] sc cp => lclB nm x && (xp.line == cp.line) && !(sc.names.any fun (n, k) => n == x && (k == .local || k == .cell)) &&
        decide (a = 0) && okBlk N nm sc (ownOf N own) && tg.ix.all (fun i => own.contains i) && g .i nm it ie && noSet ie && okT N sc.names tg t && okCd g sc.names cond ifs && g .e sc.names elt ex
      | _, _ => false))
    | _ => false)
  | .asgT tg e, x => (match x with
    | .Assign [.Tuple ts k tp] y _ => okT N nm tg (.Tuple ts k tp) && g .e nm e y && noComp y && !(isTup y)
    | _ => false)
  | .par i j a b, x => (match x with
    | .Assign [.Tuple [.Name x px, .Name y py] _ _] (.Tuple [e1, e2] _ _) _ => decide (N[i]? = some x) && decide (N[j]? = some y) && !(i == j) && lclB nm x && lclB nm y && !(x == y) && decide (px.line = py.line) && starless e1 && starless e2 &&
      !([e1, e2].all (foldedForSure 8)) && !([e1, e2].all (constantsAlone 8)) && g .e nm a e1 && g .e nm b e2
    | _ => false)
  | .sub o i e, x => (match x with
    | .Assign [.Subscript x y _] z _ => g .e nm e z && g .e nm o x && g .e nm i y && noComp z && noSlice y
    | _ => false)
  | .ex e, x => (match x with
    | .Expr x _ => g .e nm e x && noComp x
    | _ => false)
  | .ret e, x => (match x with
    | .Return (some x) _ => g .e nm e x
    | _ => false)
  | .ifs c a b, x => (match x with
    | .If x y z _ => g .t nm c x && okSs h a y && okSs h b z
    | _ => false)
  | .for_ tg it b, x => (match x with
    | .For t i y [] _ => okT N nm tg t && g .i nm it i && noSet i && okSs h b y
    | _ => false)
  | .while_ c b, x => (match x with
    | .While x y [] _ => g .t nm c x && okSs h b y
    | _ => false)
  | .rs _ _, _ => false
  | .tr _ _ _ _, _ => false
def okS (f : Nat) (nm : Names) : Nat → IS → Stmt → Bool
  | 0, _, _ => false
  | m + 1, s, x => okS1 N (okX T N f) nm (okS f nm m) s x
end
/-! ### what the scope says -/
structure ScOk (X : Cx) (nm : Names) : Prop where
  vis : ∀ x, visB nm x = true → Vis X.env.scope x
  sto : ∀ x, locB nm x = true → Loc X.env.scope x ∧ (X.fn x = true ∨ X.env.scope.names.lookup x = some .local)
  fre : ∀ x, freB nm x = true → X.env.scope.names.lookup x = some .cell ∨ X.env.scope.names.lookup x = some .free
  lcl : ∀ x, lclB nm x = true → X.env.scope.names.lookup x = some .local
  glo : ∀ x, glbB nm x = true → Gl X x ∧ (x == ("__debug__" : Str)) = false
theorem relabel_look {env : PySem.Env} : ∀ {names : Names} {x : Str} {k : NameKind}, names.lookup x = some k →
    (names.map fun (n, k) => if (k == NameKind.free && env.scope.kind == .function && env.kindOf n == some .cell) then (n, NameKind.cell) else (n, k)).lookup x = some k ∨
      (k = .free ∧ (names.map fun (n, k) => if (k == NameKind.free && env.scope.kind == .function && env.kindOf n == some .cell) then (n, NameKind.cell) else (n, k)).lookup x = some .cell)
  | [], _, _, h => by simp at h
  | (n, k0) :: r, x, k, h => by
    have ih := @relabel_look env r x k
    rw [List.map_cons]
    by_cases e : x == n
    · have h' : k0 = k := by simpa [List.lookup_cons, e] using h
      subst h'
      by_cases c : (k0 == NameKind.free && env.scope.kind == .function && env.kindOf n == some .cell) = true
      · right
        refine ⟨?_, ?_⟩
        · simp only [Bool.and_eq_true, beq_iff_eq] at c
          exact c.1.1
        · show List.lookup x ((if (k0 == NameKind.free && env.scope.kind == .function && env.kindOf n == some .cell) = true then (n, NameKind.cell) else (n, k0)) :: _) = _
          rw [if_pos c, List.lookup_cons, e]
      · left
        show List.lookup x ((if (k0 == NameKind.free && env.scope.kind == .function && env.kindOf n == some .cell) = true then (n, NameKind.cell) else (n, k0)) :: _) = _
        rw [if_neg c, List.lookup_cons, e]
    · have e : (x == n) = false := by simpa using e
      have h' : r.lookup x = some k := by simpa [List.lookup_cons, e] using h
      have step : ∀ z, List.lookup x ((if (k0 == NameKind.free && env.scope.kind == .function && env.kindOf n == some .cell) = true then (n, NameKind.cell) else (n, k0)) :: z) = List.lookup x z := fun z => by
        split <;> rw [List.lookup_cons, e]
      rcases ih h' with q | ⟨q1, q2⟩
      · exact .inl ((step _).trans q)
      · exact .inr ⟨q1, (step _).trans q2⟩
theorem ScOk.def {X : Cx} (hf : ∀ x, X.fn x = true) : ScOk X X.env.scope.names where
  vis x h := by
    unfold visB at h
    split at h <;> first | exact .inl (by assumption) | exact .inr (.inl (by assumption)) | exact .inr (.inr (by assumption)) | cases h
  sto x h := by
    unfold locB at h
    refine ⟨?_, .inl (hf x)⟩
    split at h <;> first | exact .inl (by assumption) | exact .inr (by assumption) | cases h
  fre x h := by
    unfold freB at h
    split at h <;> first | exact .inl (by assumption) | exact .inr (by assumption) | cases h
  lcl x h := by
    unfold lclB at h
    split at h <;> first | assumption | cases h
  glo x h := by
    unfold glbB at h
    split at h
    · exact ⟨by assumption, by simpa using h⟩
    · cases h
theorem ScOk.blk {X : Cx} {s : Shared} {H : Hp} {sc : Scope} {C : Addr} {cl : List (Str × Addr)} {fp : List Addr} : ScOk (X.blk s H sc (compEnvC sc cl C X.env) fp) sc.names where
  vis x h := by
    unfold visB at h
    have key : ∀ k, sc.names.lookup x = some k → k = .local ∨ k = .cell ∨ k = .free → Vis (compEnvC sc cl C X.env).scope x := fun k hk hc => by
      rcases relabel_look (env := X.env) hk with q | ⟨rfl, q⟩
      · rcases hc with rfl | rfl | rfl
        · exact .inl q
        · exact .inr (.inl q)
        · exact .inr (.inr q)
      · exact .inr (.inl q)
    split at h
    · exact key _ (by assumption) (.inl rfl)
    · exact key _ (by assumption) (.inr (.inl rfl))
    · exact key _ (by assumption) (.inr (.inr rfl))
    · cases h
  sto x h := by
    unfold locB at h
    split at h
    · rename_i hk
      rcases relabel_look (env := X.env) hk with q | ⟨z, _⟩
      · exact ⟨.inl q, .inr q⟩
      · cases z
    · rename_i hk
      rcases relabel_look (env := X.env) hk with q | ⟨z, _⟩
      · exact ⟨.inr q, .inl (by show (sc.names.lookup x == some .cell) = true; rw [hk]; rfl)⟩
      · cases z
    · cases h
  fre x h := by
    unfold freB at h
    split at h
    · rename_i hk
      rcases relabel_look (env := X.env) hk with q | ⟨z, _⟩
      · exact .inl q
      · cases z
    · rename_i hk
      rcases relabel_look (env := X.env) hk with q | ⟨_, q⟩
      · exact .inr q
      · exact .inl q
    · cases h
  lcl x h := by
    unfold lclB at h
    split at h
    · rename_i hk
      rcases relabel_look (env := X.env) hk with q | ⟨z, _⟩
      · exact q
      · cases z
    · cases h
  glo x h := by
    unfold glbB at h
    split at h
    · rename_i hk
      rcases relabel_look (env := X.env) hk with q | ⟨z, _⟩
      · exact ⟨q, by simpa using h⟩
      · cases z
    · cases h
end Ip

/-! IpSnd1: what the evaluator says is what the code does: the frame of the statement, values, names, displays. -/
namespace Ip
open PySem PySem.Spec PyProof.Rows L2  -- so

def OutE {α : Type} (o : Out α) (ok : α → Store → Prop) (ex : Nat → PV → Store → Prop) : Prop := match o with
  | .ok a S => ok a S
  | .exn c v S => ex c v S
  | .bad => False
theorem OutE.bind {α β : Type} {o : Out α} {k : α → Store → Out β} {ok : β → Store → Prop} {ex : Nat → PV → Store → Prop} : OutE (o.bind k) ok ex → OutE o (fun a S => OutE (k a S) ok ex) ex := by
  cases o <;> exact id
theorem OutE.mono {α : Type} {o : Out α} {ok ok' : α → Store → Prop} {ex ex' : Nat → PV → Store → Prop} (h : OutE o ok ex) (h1 : ∀ a S, ok a S → ok' a S) (h2 : ∀ c v S, ex c v S → ex' c v S) : OutE o ok' ex' := by
  cases o with
  | ok a S => exact h1 a S h
  | exn c v S => exact h2 c v S h
  | bad => exact h
abbrev sValue : Str := Str.ofString "value"
def EnvR (K : PySem.W.Frag) (ca : Nat → Addr) (G : Hp) (α : List Addr) (ρ : Rho) (σ : L2.St) : Prop := ρ.length = σ.length ∧ ∀ (i : Nat) (p : PV), ρ[i]? = some (some p) → ∃ v, σ[i]? = some (some v) ∧ R K ca G α p v
section
variable {K : PySem.W.Frag} {ca : Nat → Addr} {G G' : Hp} {α α' : List Addr} {ρ : Rho} {σ : L2.St}
theorem EnvR.mono (hG : Le G G') (hα : Pre α α') (h : EnvR K ca G α ρ σ) : EnvR K ca G' α' ρ σ := ⟨h.1, fun i p e => by
  obtain ⟨v, e', r⟩ := h.2 i p e
  exact ⟨v, e', r.mono hG hα⟩⟩
theorem EnvR.set {p : PV} {v : V} (h : EnvR K ca G α ρ σ) (r : R K ca G α p v) (i : Nat) : EnvR K ca G α (ρ.set i (some p)) (σ.set i (some v)) := by
  refine ⟨by rw [List.length_set, List.length_set]; exact h.1, fun j q e => ?_⟩
  by_cases z : j = i
  · subst z
    have hj : j < ρ.length := by
      have := (List.getElem?_eq_some_iff.mp e).1
      rwa [List.length_set] at this
    rw [List.getElem?_set_self hj] at e
    cases e
    exact ⟨v, List.getElem?_set_self (by rw [← h.1]; exact hj), r⟩
  · rw [List.getElem?_set_ne (Ne.symm z)] at e
    obtain ⟨u, e', r'⟩ := h.2 j q e
    exact ⟨u, by rw [List.getElem?_set_ne (Ne.symm z)]; exact e', r'⟩
theorem EnvR.setNone (h : EnvR K ca G α ρ σ) (i : Nat) : EnvR K ca G α (ρ.set i none) (σ.set i none) := by
  refine ⟨by rw [List.length_set, List.length_set]; exact h.1, fun j q e => ?_⟩
  by_cases z : j = i
  · subst z
    have hj : j < ρ.length := by
      have := (List.getElem?_eq_some_iff.mp e).1
      rwa [List.length_set] at this
    rw [List.getElem?_set_self hj] at e
    cases e
  · rw [List.getElem?_set_ne (Ne.symm z)] at e
    obtain ⟨u, e', r'⟩ := h.2 j q e
    exact ⟨u, by rw [List.getElem?_set_ne (Ne.symm z)]; exact e', r'⟩
theorem EnvR.wipe (h : EnvR K ca G α ρ σ) : ∀ own : List Nat, EnvR K ca G α (wipeE ρ own) (L2.wipe σ own)
  | [] => h
  | i :: r => (EnvR.wipe h r).setNone i
end
/-- what is wanted of an exception -/
def XP (K : PySem.W.Frag) (ca : Nat → Addr) (L : Nat → Prop) (F : Hp) (W : Value → Option Addr → Hp → Prop) (G : Hp) (α : List Addr) : Nat → PV → Store → Prop := fun c p S =>
  ∀ d x H' G' α', Le G G' → Pre α α' → Conc K ca L G' F α' S H' → G' d = some (.xd [(sValue, x)]) → R K ca G' α' p x → W (.ref (ca c)) (some d) H'
theorem XP.mono {K : PySem.W.Frag} {ca : Nat → Addr} {L : Nat → Prop} {F : Hp} {W : Value → Option Addr → Hp → Prop} {G G' : Hp} {α α' : List Addr} (hG : Le G G') (hα : Pre α α') {c : Nat} {p : PV} {S : Store}
    (h : XP K ca L F W G α c p S) : XP K ca L F W G' α' c p S := fun d x H' G2 α2 h1 h2 => h d x H' G2 α2 (hG.trans h1) (hα.trans h2)

/-- a def's promise: what the evaluator says of it -/
def spF (K : PySem.W.Frag) (ca : Nat → Addr) (P : Pg) (w n f m : Nat) : Sp := fun vs H Q E => ∃ (L : Nat → Prop) (G F : Hp) (α : List Addr) (S : Store) (ps : List PV), Conc K ca L G F α S H ∧ Rs K ca G α ps vs ∧ ps.length = m ∧
  OutE (callF P w n f ps S) (fun r S' => ∀ v H' G', Le G G' → Conc K ca L G' F α S' H' → RVR K ca G' F α H' r v → Q v H')
    (fun c p S' => ∀ d x H' G', Le G G' → Conc K ca L G' F α S' H' → G' d = some (.xd [(sValue, x)]) → R K ca G' α p x → E (.ref (ca c)) (some d) H')

/-- the built-in names that the evaluator knows -/
def bltNames : List Str := ["len", "sum", "all", "any", "tuple", "list", "int", "abs", "max", "min", "repr", "range", "isinstance", "bool", "str", "ValueError", "super"]
/-- the context -/
structure XC (P : Pg) (T : Tab) (w n : Nat) (ca : Nat → Addr) (N : List Str) (k : Nat) (X : Cx) : Prop where
  N : X.N = N
  nd : X.N.Nodup
  calm : X.calm = true
  gd : X.A.guards = some []
  room : Room k X.A
  blt : ∀ b ∈ bltNames, X.mg b = none
  gls : ∀ g x, T.glN g = some x → ∃ i t, P.gls g = some i ∧ X.mg x = some (.int i t)
  fns : ∀ f x, T.fnN f = some x → ∃ a fd ps, X.mg x = some (.ref a) ∧ PySem.W.keepIn X.K (.ref a) = true ∧ Binds X.K fd ps [] ∧ (∀ fn, P.fns f = some fn → ps.length = fn.params) ∧ FnG X.prog X.w X.K X.mg X.base k a fd ps (spF X.K ca P w n f ps.length)
theorem XC.blk {P : Pg} {T : Tab} {w n : Nat} {ca : Nat → Addr} {N : List Str} {k : Nat} {X : Cx} (h : XC P T w n ca N k X) {s : Shared} {H : Hp} {sc : Scope} {C : Addr} {cl : List (Str × Addr)} {fp : List Addr} :
    XC P T w n ca N k (X.blk s H sc (compEnvC sc cl C X.env) fp) := ⟨h.N, h.nd, h.calm, h.gd, h.room, h.blt, h.gls, h.fns⟩

section
variable (P : Pg) (cf : Nat → List PV → Store → Out RV) (n0 : Nat) (ca : Nat → Addr) (L : Nat → Prop) (X : Cx) (W : WX)
/-- an expression -/
def SE (e : IE) (x : Expr) : Prop := ∀ (F : Hp) (ρ : Rho) (S : Store) (σ : L2.St) (H G : Hp) (α : List Addr) (Q : VK), Conc X.K ca L G F α S H → EnvR X.K ca G α ρ σ →
  OutE (evalE P cf n0 e ρ S) (fun r S' => ∀ v H' G' α', Le G G' → Pre α α' → Conc X.K ca L G' F α' S' H' → RVR X.K ca G' F α' H' r v → Q v H') (XP X.K ca L F (fun c d H' => W c d σ H') G α) → wE X x σ H Q
/-- .. taken by value -/
def SP (e : IE) (x : Expr) : Prop := ∀ (F : Hp) (ρ : Rho) (S : Store) (σ : L2.St) (H G : Hp) (α : List Addr) (Q : VK), Conc X.K ca L G F α S H → EnvR X.K ca G α ρ σ →
  OutE (evalE P cf n0 e ρ S) (fun r S' => ∀ v H' G' α', Le G G' → Pre α α' → Conc X.K ca L G' F α' S' H' → R X.K ca G' α' r.fz v → Q v H') (XP X.K ca L F (fun c d H' => W c d σ H') G α) → wE X x σ H Q
def SEs (es : List IE) (xs : List Expr) : Prop := ∀ (F : Hp) (ρ : Rho) (S : Store) (σ : L2.St) (H G : Hp) (α : List Addr) (Q : List V → Hp → Prop), Conc X.K ca L G F α S H → EnvR X.K ca G α ρ σ →
  OutE (evalEs P cf n0 es ρ S) (fun ps S' => ∀ vs H' G' α', Le G G' → Pre α α' → Conc X.K ca L G' F α' S' H' → Rs X.K ca G' α' ps vs → Q vs H') (XP X.K ca L F (fun c d H' => W c d σ H') G α) → wA X xs σ H Q
end
section
variable {P : Pg} {cf : Nat → List PV → Store → Out RV} {n0 : Nat} {ca : Nat → Addr} {L : Nat → Prop} {X : Cx} {W : WX} {nm : Names} {N : List Str} {T : Tab}
theorem SE.p {e : IE} {x : Expr} (h : SE P cf n0 ca L X W e x) : SP P cf n0 ca L X W e x := fun F ρ S σ H G α Q C hE o =>
  h F ρ S σ H G α Q C hE (o.mono (fun r S' q v H' G' α' h1 h2 C' rv => by
    obtain ⟨G2, l2, C2, r2⟩ := C'.fz rv
    exact q v H' G2 α' (h1.trans l2) h2 C2 r2) fun _ _ _ z => z)
/-- two in a row, by value -/
theorem SP.two {a b : IE} {x y : Expr} (ha : SP P cf n0 ca L X W a x) (hb : SP P cf n0 ca L X W b y) {F : Hp} {ρ : Rho} {S : Store} {σ : L2.St} {H G : Hp} {α : List Addr} {Q : V → V → Hp → Prop} (C : Conc X.K ca L G F α S H) (hE : EnvR X.K ca G α ρ σ)
    (o : OutE (evalE P cf n0 a ρ S) (fun p S1 => OutE (evalE P cf n0 b ρ S1) (fun q S2 => ∀ v u H' G' α', Le G G' → Pre α α' → Conc X.K ca L G' F α' S2 H' → R X.K ca G' α' p.fz v → R X.K ca G' α' q.fz u → Q v u H')
      (XP X.K ca L F (fun c d H' => W c d σ H') G α)) (XP X.K ca L F (fun c d H' => W c d σ H') G α)) :
    wE X x σ H fun v H1 => wE X y σ H1 fun u H2 => Q v u H2 :=
  ha F ρ S σ H G α _ C hE (o.mono (fun p S1 q v H1 G1 α1 l1 p1 C1 r1 => hb F ρ S1 σ H1 G1 α1 _ C1 (hE.mono l1 p1)
    (q.mono (fun q2 S2 z u H2 G2 α2 l2 p2 C2 r2 => z v u H2 G2 α2 (l1.trans l2) (p1.trans p2) C2 (r1.mono l2 p2) r2) fun _ _ _ z => z.mono l1 p1)) fun _ _ _ z => z)
theorem se_cst_non {k : Nat} {p : Pos} : SE P cf n0 ca L X W (.cst .non) (.Constant .none k p) := fun F ρ S σ H G α Q C hE o =>
  ofE pe_non (o .non H G α (Le.refl _) (Pre.refl _) C .non)
theorem se_cst_bl {b : Bool} {k : Nat} {p : Pos} : SE P cf n0 ca L X W (.cst (.bl b)) (.Constant (.bool b) k p) := fun F ρ S σ H G α Q C hE o =>
  ofE pe_bl (o (.bl b) H G α (Le.refl _) (Pre.refl _) C (.bl b))
theorem se_cst_int {i : Int} {k : Nat} {p : Pos} : SE P cf n0 ca L X W (.cst (.int i)) (.Constant (.int i) k p) := fun F ρ S σ H G α Q C hE o =>
  ofE pe_int (o (.int i) H G α (Le.refl _) (Pre.refl _) C (.int i))
theorem se_cst_str {i : Str} {k : Nat} {p : Pos} : SE P cf n0 ca L X W (.cst (.str i)) (.Constant (.str i) k p) := fun F ρ S σ H G α Q C hE o =>
  ofE pe_str (o (.str i) H G α (Le.refl _) (Pre.refl _) C (.str i))
theorem se_var {i : Nat} {x : Str} {p : Pos} (hN : X.N[i]? = some x) (hv : Vis X.env.scope x) (hd : (x == ("__debug__" : Str)) = false) (hc : (x == ("__classdict__" : Str)) = false) : SE P cf n0 ca L X W (.var i) (.Name x p) := fun F ρ S σ H G α Q C hE o => by
  have o : OutE (match ρ[i]? with
    | some (some p) => Out.ok (RV.v p) S
    | _ => .bad) _ _ := o
  split at o
  · rename_i q e
    obtain ⟨v, e', r⟩ := hE.2 i q e
    exact ofE (pe_var hN hv hd hc) ⟨v, e', o v H G α (Le.refl _) (Pre.refl _) C r⟩
  · exact o.elim
theorem se_gl {g : Nat} {x : Str} {p : Pos} {i : Int} {t : Tok} (hi : P.gls g = some i) (hm : X.mg x = some (.int i t)) (hg : Gl X x) (hd : (x == ("__debug__" : Str)) = false) : SE P cf n0 ca L X W (.gl g) (.Name x p) := fun F ρ S σ H G α Q C hE o => by
  have o : OutE (match P.gls g with
    | some i => Out.ok (RV.v (.int i)) S
    | none => .bad) _ _ := o
  rw [hi] at o
  exact ofE (pe_glob (v := V.int i) hg hm ⟨t, rfl⟩ hd) (o (.int i) H G α (Le.refl _) (Pre.refl _) C (.int i))
/-! ### lists of expressions, displays -/
theorem star_cons {e : Expr} {es : List Expr} {env : PySem.Env} (h : starless e = true) : starEach (e :: es) env = (false, eval e env) :: starEach es env := by
  cases e <;> first | rfl | cases h
theorem ses_nil : SEs P cf n0 ca L X W [] [] := fun F ρ S σ H G α Q C hE o => ofA pa_nil (o [] H G α (Le.refl _) (Pre.refl _) C .nil)
theorem ses_cons {e : IE} {es : List IE} {x : Expr} {xs : List Expr} (hx : starless x = true) (h1 : SP P cf n0 ca L X W e x) (h2 : SEs P cf n0 ca L X W es xs) : SEs P cf n0 ca L X W (e :: es) (x :: xs) := fun F ρ S σ H G α Q C hE o => by
  have o : OutE ((evalE P cf n0 e ρ S).bind fun p S1 => (evalEs P cf n0 es ρ S1).bind fun ps S2 => .ok (p.fz :: ps) S2) _ _ := o
  refine ofA (pa_cons (pE x) (pA xs) (star_cons hx)) (h1 F ρ S σ H G α _ C hE (o.bind.mono (fun p S1 q v H1 G1 α1 l1 p1 C1 r1 => h2 F ρ S1 σ H1 G1 α1 _ C1 (hE.mono l1 p1) ?_) fun _ _ _ z => z))
  exact q.bind.mono (fun ps S2 z vs H2 G2 α2 l2 p2 C2 r2 => z (v :: vs) H2 G2 α2 (l1.trans l2) (p1.trans p2) C2 (.cons (r1.mono l2 p2) r2)) fun _ _ _ z => z.mono l1 p1
theorem se_tup {es : List IE} {xs : List Expr} {k : Nat} {p : Pos} (h : SEs P cf n0 ca L X W es xs) (hl : es.length ≤ 1000) (hlx : ∀ ρ S ps S', evalEs P cf n0 es ρ S = .ok ps S' → ps.length = es.length) : SE P cf n0 ca L X W (.tup es) (.Tuple xs k p) := fun F ρ S σ H G α Q C hE o => by
  have o : OutE ((evalEs P cf n0 es ρ S).bind fun ps S1 => Out.ok (RV.v (.tup ps)) S1) _ _ := o
  refine ofE (pe_tup (pA xs)) (h F ρ S σ H G α _ C hE ?_)
  cases e : evalEs P cf n0 es ρ S with
  | ok ps S1 =>
    rw [e] at o
    intro vs H1 G1 α1 l1 p1 C1 r1
    refine ⟨?_, fun a ha => ?_⟩
    · rw [← r1.length, hlx ρ S ps S1 e]
      exact Nat.le_of_lt (small1000 hl)
    · have lg := Le.upd (o := .tup vs) (C1.gn ha)
      exact o (.ref a) _ _ α1 (l1.trans lg) p1 (C1.newG (o := .tup vs) ha) (.tup (.inl (.inl upd_same)) (r1.mono lg (Pre.refl _)))
  | exn c v S1 => rw [e] at o; exact o
  | bad => rw [e] at o; exact o
theorem se_lst {es : List IE} {xs : List Expr} {p : Pos} (h : SEs P cf n0 ca L X W es xs) (hl : es.length ≤ 1000) (hlx : ∀ ρ S ps S', evalEs P cf n0 es ρ S = .ok ps S' → ps.length = es.length) : SE P cf n0 ca L X W (.lst es) (.List xs p) := fun F ρ S σ H G α Q C hE o => by
  have o : OutE ((evalEs P cf n0 es ρ S).bind fun ps S1 => Out.ok (RV.f (.lst ps)) S1) _ _ := o
  refine ofE (pe_lst (pA xs)) (h F ρ S σ H G α _ C hE ?_)
  cases e : evalEs P cf n0 es ρ S with
  | ok ps S1 =>
    rw [e] at o
    intro vs H1 G1 α1 l1 p1 C1 r1
    refine ⟨?_, fun a ha => ?_⟩
    · rw [← r1.length, hlx ρ S ps S1 e]
      exact Nat.le_of_lt (small1000 hl)
    · exact o (.ref a) _ _ α1 l1 p1 (C1.new (o := .lst vs) ha) ⟨a, rfl, ⟨vs, upd_same, r1⟩, C1.an ha, C1.gn ha, C1.fn ha⟩
  | exn c v S1 => rw [e] at o; exact o
  | bad => rw [e] at o; exact o
theorem evalEs_length : ∀ {es : List IE} {ρ : Rho} {S S' : Store} {ps : List PV}, evalEs P cf n0 es ρ S = .ok ps S' → ps.length = es.length
  | [], _, _, _, _, h => by
    cases h
    rfl
  | e :: es, ρ, S, S', ps, h => by
    have h : ((evalE P cf n0 e ρ S).bind fun p S1 => (evalEs P cf n0 es ρ S1).bind fun ps S2 => .ok (p.fz :: ps) S2) = .ok ps S' := h
    cases e1 : evalE P cf n0 e ρ S with
    | ok p S1 =>
      rw [e1] at h
      cases e2 : evalEs P cf n0 es ρ S1 with
      | ok qs S2 =>
        rw [Out.bind_ok, e2] at h
        cases h
        exact congrArg (· + 1) (evalEs_length e2)
      | exn c v S2 => rw [Out.bind_ok, e2] at h; cases h
      | bad => rw [Out.bind_ok, e2] at h; cases h
    | exn c v S2 => rw [e1] at h; cases h
    | bad => rw [e1] at h; cases h
end
end Ip

/-! IpSnd2: operators, comparisons, subscripts. -/
namespace Ip
open PySem PySem.Spec PyProof.Rows L2  -- so

/-! ### data -/
section
variable {K : PySem.W.Frag} {ca : Nat → Addr} {G F H : Hp} {α : List Addr} {S : Store} {L : Nat → Prop}
end
/-- v reads as d wherever the abstract heap is so -/
def DR (K : PySem.W.Frag) (H : Hp) (v : V) (d : PyData) : Prop := ∀ (X : Cx) (pins : List (Addr × Obj)) (σ : L2.St) (s : Shared) (u : Value), X.K = K → L2.Inv X pins σ H s → RelV v u → ∃ as, Reads s.heap u d as
def DRs (K : PySem.W.Frag) (H : Hp) (vs : List V) (ds : List PyData) : Prop := ∀ (X : Cx) (pins : List (Addr × Obj)) (σ : L2.St) (s : Shared) (us : List Value), X.K = K → L2.Inv X pins σ H s → Vals vs us → ∃ as, ReadsAll s.heap us ds as
section
variable {K : PySem.W.Frag} {ca : Nat → Addr} {G F H : Hp} {α : List Addr} {S : Store} {L : Nat → Prop}
theorem DR.lst {a : Addr} {vs : List V} {ds : List PyData} (h : SqL K H a vs) (t : DRs K H vs ds) : DR K H (.ref a) (.list ds) := fun X pins σ s u e I r => by
  subst e
  cases r
  obtain ⟨its, rv, ⟨o, n, ho, hc, _, hd⟩, _⟩ := I.list h
  obtain ⟨as, q⟩ := t X pins σ s its rfl I rv
  exact ⟨_, Reads.list ho hc hd q⟩
theorem DR.tup {a : Addr} {vs : List V} {ds : List PyData} (h : SqT K H a vs) (t : DRs K H vs ds) : DR K H (.ref a) (.tuple ds) := fun X pins σ s u e I r => by
  subst e
  cases r
  obtain ⟨its, rv, ⟨o, ho, hc, n, hd⟩, _⟩ := I.tuple h
  obtain ⟨as, q⟩ := t X pins σ s its rfl I rv
  exact ⟨_, Reads.tuple ho hc hd q⟩
theorem DRs.nil : DRs K H [] [] := fun X pins σ s us e I r => by
  cases r
  exact ⟨_, .nil⟩
theorem DRs.cons {v : V} {vs : List V} {d : PyData} {ds : List PyData} (h : DR K H v d) (t : DRs K H vs ds) : DRs K H (v :: vs) (d :: ds) := fun X pins σ s us e I r => by
  cases r with
  | cons r1 r2 =>
    obtain ⟨as, q1⟩ := h X pins σ s _ e I r1
    obtain ⟨bs, q2⟩ := t X pins σ s _ e I r2
    exact ⟨_, .cons q1 q2⟩
theorem keys_reads {h : Heap} {P : Program} {w : World} : ∀ {kvs : List (Key × V)} {ents : List (Key × Value)} {es : List DictEntry}, KV kvs ents → Pairs (mixKind P w) es ents →
    ∀ {ds : List PyData} {g : Nat → Option PyData}, PV.toDs g (kvs.map fun e => keyP e.1) = some ds → ReadsAll h (es.map (·.key)) ds []
  | [], _, _, r, q, ds, g, e => by
    cases r
    cases q
    cases e
    exact .nil
  | (k, v) :: kvs, _, _, r, q, ds, g, e => by
    cases r with
    | cons r1 r2 =>
      cases q with
      | cons q1 q3 q2 =>
        simp only [List.map_cons, PV.toDs] at e
        cases e2 : PV.toDs g (kvs.map fun e => keyP e.1) with
        | none =>
          rw [e2] at e
          cases hk : PV.toD g (keyP k) <;> rw [hk] at e <;> cases e
        | some ds' =>
          rw [e2] at e
          have ih := keys_reads (h := h) r2 q2 e2
          have hk : keyIs _ _ = true := q1
          rw [← r1.1] at hk
          cases k with
          | inl i =>
            obtain ⟨t, et⟩ := Value.isInt_shape (k := i) hk
            cases e
            rw [List.map_cons, et]
            exact .cons (.int i t) ih
          | inr x =>
            obtain ⟨t, et⟩ := Value.isStrOf_shape (x := x) hk
            cases e
            rw [List.map_cons, et]
            exact .cons (.str x t) ih
theorem vals_reads {P : Program} {w : World} : ∀ {kvs : List (Key × V)} {ents : List (Key × Value)} {es : List DictEntry}, KV kvs ents → Pairs (mixKind P w) es ents → Vals (kvs.map (·.2)) (es.map (·.val))
  | _, _, _, .nil, .nil => .nil
  | _, _, _, .cons r1 r2, .cons q1 q3 q2 => by
    rw [List.map_cons, List.map_cons, q3]
    exact .cons r1.2 (vals_reads r2 q2)
theorem zip_fst {α β : Type} : ∀ {a : List α} {b : List β}, a.length = b.length → (a.zip b).map (·.1) = a ∧ (a.zip b).map (·.2) = b
  | [], [], _ => ⟨rfl, rfl⟩
  | x :: a, y :: b, h => by
    have ih := zip_fst (a := a) (b := b) (by simpa using h)
    exact ⟨congrArg (x :: ·) ih.1, congrArg (y :: ·) ih.2⟩
/-- a dict of written keys -/
theorem DR.dct {a : Addr} {kvs : List (Key × V)} {ks ds : List PyData} {g : Nat → Option PyData} (h : H a = some (.dK kvs)) (hk : PV.toDs g (kvs.map fun e => keyP e.1) = some ks) (t : DRs K H (kvs.map (·.2)) ds) (hl : ks.length = ds.length) : DR K H (.ref a) (.dict (ks.zip ds)) := fun X pins σ s u e I r => by
  subst e
  cases r
  obtain ⟨z, ns, ents, kv, o, es, ep, ho, ex, hd, _, pr, _⟩ := I.hok a _ h
  obtain ⟨as, q⟩ := t X pins σ s _ rfl I (vals_reads kv pr)
  obtain ⟨z1, z2⟩ := zip_fst hl
  have hc : o.cls = .type "dict" := by first | exact ex.1 | exact ex.cls | exact ex
  exact ⟨_, Reads.dict (kvs := ks.zip ds) ho hc hd (by rw [z1]; exact keys_reads kv pr hk) (by rw [z2]; exact q)⟩
mutual
theorem R.dp {g : Nat → Option PyData} (hG : Le G H) (hg : ∀ (k : Nat) (a : Addr) (d : PyData), α[k]? = some a → g k = some d → DR K H (.ref a) d) : ∀ {p : PV} {v : V} {d : PyData}, R K ca G α p v → p.toD g = some d → DR K H v d
  | _, _, _, .non, h => by
    cases h
    exact fun X pins σ s u e I r => by
      cases r
      exact ⟨_, Reads.none⟩
  | _, _, _, .bl b, h => by
    cases h
    exact fun X pins σ s u e I r => by
      cases r
      exact ⟨_, Reads.bool b⟩
  | _, _, _, .int i, h => by
    cases h
    exact fun X pins σ s u e I ⟨t, r⟩ => by
      subst r
      exact ⟨_, Reads.int i t⟩
  | _, _, _, .str x, h => by
    cases h
    exact fun X pins σ s u e I ⟨t, r⟩ => by
      subst r
      exact ⟨_, Reads.str x t⟩
  | _, _, d, .tup (ps := ps) h1 t, h => by
    simp only [PV.toD] at h
    cases e : PV.toDs g ps with
    | none => rw [e] at h; cases h  -- so
    | some ds => rw [e] at h; cases h; exact .tup (hG.sqT h1) (Rs.dp hG hg t e)
  | _, _, d, .lst (ps := ps) h1 t, h => by
    simp only [PV.toD] at h
    cases e : PV.toDs g ps with
    | none => rw [e] at h; cases h  -- so
    | some ds => rw [e] at h; cases h; exact .lst (.inl (.inl (hG _ _ h1))) (Rs.dp hG hg t e)
  | _, _, d, .slst (ps := ps) h1 t, h => by
    simp only [PV.toD] at h
    cases e : PV.toDs g ps with
    | none => rw [e] at h; cases h  -- so
    | some ds => rw [e] at h; cases h; exact .lst (hG.sqL h1) (Rs.dp hG hg t e)
  | _, _, d, .dct (kvs := kvs) (ps := ps) h1 t, h => by
    simp only [PV.toD] at h
    cases e1 : PV.toDs g (kvs.map fun e => keyP e.1) with
    | none => rw [e1] at h; cases h
    | some ks =>
      cases e2 : PV.toDs g ps with
      | none => rw [e1, e2] at h; cases h
      | some ds =>
        rw [e1, e2] at h
        simp only at h
        split at h
        · cases h
          exact .dct (hG _ _ h1) e1 (Rs.dp hG hg t e2) (by assumption)
        · cases h
  | _, _, d, .loc h1, h => hg _ _ d h1 h
  | _, _, _, .exc _ _ _ _, h => by cases h
theorem Rs.dp {g : Nat → Option PyData} (hG : Le G H) (hg : ∀ (k : Nat) (a : Addr) (d : PyData), α[k]? = some a → g k = some d → DR K H (.ref a) d) : ∀ {ps : List PV} {vs : List V} {ds : List PyData}, Rs K ca G α ps vs → PV.toDs g ps = some ds → DRs K H vs ds
  | _, _, _, .nil, h => by cases h; exact .nil  -- so
  | _, _, ds, .cons (p := p) (ps := ps) r t, h => by
    simp only [PV.toDs] at h
    cases e1 : PV.toD g p with
    | none => rw [e1] at h; cases h
    | some d =>
      cases e2 : PV.toDs g ps with
      | none => rw [e1, e2] at h; cases h
      | some es => rw [e1, e2] at h; cases h; exact .cons (R.dp hG hg r e1) (Rs.dp hG hg t e2)
end
theorem Conc.cellD (C : Conc K ca L G F α S H) : ∀ (m k : Nat) (a : Addr) (d : PyData), α[k]? = some a → cellD S m k = some d → DR K H (.ref a) d
  | 0, _, _, _, _, h => by cases h  -- so
  | m + 1, k, a, d, hk, h => by
    simp only [Ip.cellD] at h
    cases e : S[k]? with
    | none => rw [e] at h; cases h  -- so
    | some c =>
      cases c with
      | lst xs =>
        rw [e] at h
        simp only at h
        cases e2 : PV.toDs (Ip.cellD S m) xs with
        | none => rw [e2] at h; cases h
        | some ds =>
          rw [e2] at h
          cases h
          obtain ⟨vs, e3, t⟩ := C.cell k _ a e hk
          exact .lst (.inl (.inl e3)) (Rs.dp C.gh (fun k' a' d' h1 h2 => Conc.cellD C m k' a' d' h1 h2) t e2)
theorem R.data {p : PV} {v : V} {d : PyData} (C : Conc K ca L G F α S H) (r : R K ca G α p v) (h : dataOf S p = some d) : DR K H v d := R.dp C.gh (C.cellD 4) r h
end
theorem fitD_plain {d : PyData} (h : fitD d = true) : d.plain = true := (Bool.and_eq_true_iff.mp h).1
theorem fitD_depth {d : PyData} (h : fitD d = true) : d.depth ≤ 64 := of_decide_eq_true (Bool.and_eq_true_iff.mp h).2
section
variable {X : Cx} {k : Nat}
theorem rm_units (hr : Room k X.A) : X.A.units + 200 < cLine := Nat.lt_of_le_of_lt (Nat.add_le_add_right (Nat.le_add_right _ _) _) hr.un
theorem op_eqP (hu : X.A.units + 200 < cLine) : OpR X (compareOp .Eq) fun x y H Q => ∃ d e, DR X.K H x d ∧ DR X.K H y e ∧ fitD d = true ∧ fitD e = true ∧ Q (.bl (PyData.eqv d e)) H := by
  intro pins s σ H x y v u Q I rx ry h  -- so
  obtain ⟨d, e, hd, he, fd, fe, q⟩ := h
  obtain ⟨as, r1⟩ := hd X pins σ s v rfl I rx
  obtain ⟨bs, r2⟩ := he X pins σ s u rfl I ry
  refine SeqAt.eq_plain r1 r2 (fitD_plain fd) (fitD_plain fe) ?_ ⟨.bl _, H, I, rfl, q⟩
  have := fitD_depth fd
  have : min d.depth e.depth ≤ d.depth := Nat.min_le_left _ _
  omega
theorem op_neP (hu : X.A.units + 200 < cLine) : OpR X (compareOp .NotEq) fun x y H Q => ∃ d e, DR X.K H x d ∧ DR X.K H y e ∧ fitD d = true ∧ fitD e = true ∧ Q (.bl (!PyData.eqv d e)) H := by
  intro pins s σ H x y v u Q I rx ry h  -- so
  obtain ⟨d, e, hd, he, fd, fe, q⟩ := h
  obtain ⟨as, r1⟩ := hd X pins σ s v rfl I rx
  obtain ⟨bs, r2⟩ := he X pins σ s u rfl I ry
  refine SeqAt.ne_plain r1 r2 (fitD_plain fd) (fitD_plain fe) ?_ ⟨.bl _, H, I, rfl, q⟩
  have := fitD_depth fd
  have : min d.depth e.depth ≤ d.depth := Nat.min_le_left _ _
  omega
theorem fit_items {ys : List PyData} {d : PyData} (h : d.depth ≤ 64) : min (PyData.depthAll ys) d.depth ≤ 64 := Nat.le_trans (Nat.min_le_right _ _) h
theorem plain_list {ys : List PyData} (h : (PyData.list ys).plain = true) : PyData.plainAll ys = true := by simpa [PyData.plain] using h
theorem plain_tuple {ys : List PyData} (h : (PyData.tuple ys).plain = true) : PyData.plainAll ys = true := by simpa [PyData.plain] using h
theorem op_inP (hu : X.A.units + 200 < cLine) : OpR X (compareOp .In) fun x y H Q => ∃ d ys, DR X.K H x d ∧ (DR X.K H y (.list ys) ∧ fitD (.list ys) = true ∨ DR X.K H y (.tuple ys) ∧ fitD (.tuple ys) = true) ∧ fitD d = true ∧ Q (.bl (ys.any fun e => PyData.eqv e d)) H := by
  intro pins s σ H x y v u Q I rx ry h  -- so
  obtain ⟨d, ys, hd, he, fd, q⟩ := h
  obtain ⟨as, r1⟩ := hd X pins σ s v rfl I rx
  have hm := fit_items (ys := ys) (fitD_depth fd)
  rcases he with ⟨he, fe⟩ | ⟨he, fe⟩
  · obtain ⟨bs, r2⟩ := he X pins σ s u rfl I ry
    exact SeqAt.in_list_data r2 r1 (plain_list (fitD_plain fe)) (fitD_plain fd) (by omega) ⟨.bl _, H, I, rfl, q⟩
  · obtain ⟨bs, r2⟩ := he X pins σ s u rfl I ry
    exact SeqAt.in_tuple_data r2 r1 (plain_tuple (fitD_plain fe)) (fitD_plain fd) (by omega) ⟨.bl _, H, I, rfl, q⟩
theorem op_ninP (hu : X.A.units + 200 < cLine) : OpR X (compareOp .NotIn) fun x y H Q => ∃ d ys, DR X.K H x d ∧ (DR X.K H y (.list ys) ∧ fitD (.list ys) = true ∨ DR X.K H y (.tuple ys) ∧ fitD (.tuple ys) = true) ∧ fitD d = true ∧ Q (.bl (!(ys.any fun e => PyData.eqv e d))) H := by
  intro pins s σ H x y v u Q I rx ry h  -- so
  obtain ⟨d, ys, hd, he, fd, q⟩ := h
  obtain ⟨as, r1⟩ := hd X pins σ s v rfl I rx
  have hm := fit_items (ys := ys) (fitD_depth fd)
  rcases he with ⟨he, fe⟩ | ⟨he, fe⟩
  · obtain ⟨bs, r2⟩ := he X pins σ s u rfl I ry
    exact SeqAt.notIn_list_data r2 r1 (plain_list (fitD_plain fe)) (fitD_plain fd) (by omega) ⟨.bl _, H, I, rfl, q⟩
  · obtain ⟨bs, r2⟩ := he X pins σ s u rfl I ry
    exact SeqAt.notIn_tuple_data r2 r1 (plain_tuple (fitD_plain fe)) (fitD_plain fd) (by omega) ⟨.bl _, H, I, rfl, q⟩
/-- ints by the model's own bound -/
theorem op_powB : OpR X (binaryOp .Pow) (rI (fun i j => 0 ≤ j ∧ j ≤ 1000000 ∧ i.natAbs.log2 * j.toNat < 1000000) fun i j => .int (i ^ j.toNat)) := opI fun i j _ _ _ _ _ hc q => by
  obtain ⟨h0, h1, h2⟩ := hc
  refine pow_int h0 ?_ q
  have hb : Builtin.Int.intBits i ≤ i.natAbs.log2 + 1 := by
    unfold Builtin.Int.intBits
    split <;> omega
  have hj : (j.toNat : Int) = j := Int.toNat_of_nonneg h0
  have hp : Builtin.Int.intBits i * j.toNat ≤ i.natAbs.log2 * j.toNat + j.toNat := by
    have := Nat.mul_le_mul_right j.toNat hb
    rw [Nat.add_mul, Nat.one_mul] at this
    exact this
  have e : (Builtin.Int.intBits i : Int) * j = ((Builtin.Int.intBits i * j.toNat : Nat) : Int) := by
    rw [Int.natCast_mul, hj]
  rw [e]
  have : (2 : Int) ^ 27 = 134217728 := by decide
  omega
theorem op_mulB : OpR X (binaryOp .Mult) (rI (fun i j => mulOk i j = true) fun i j => .int (i * j)) := opI fun i j _ _ _ _ _ hc q => by
  simp only [mulOk, Bool.or_eq_true, decide_eq_true_eq] at hc
  have small : ∀ z : Int, z.natAbs < 2 ^ 64 → -(2 ^ 64) < z ∧ z < 2 ^ 64 := fun z hz => by
    have : (2 : Int) ^ 64 = 18446744073709551616 := by decide
    have : (2 : Nat) ^ 64 = 18446744073709551616 := by decide
    omega
  rcases hc with (hc | hc) | hc
  · exact mul_int q (CMul.ok (.inl (small i hc)))
  · exact mul_int q (CMul.ok (.inr (small j hc)))
  · exact mul_int q (CMulW.ok hc)
end
section
variable {ca : Nat → Addr} {L : Nat → Prop} {X : Cx} {F G H : Hp} {α : List Addr} {S : Store} {Q : VK} {p q : PV} {x y : V}
/-- a result that is a value -/
abbrev ToV (X : Cx) (ca : Nat → Addr) (L : Nat → Prop) (F G : Hp) (α : List Addr) (S : Store) (Q : VK) (r : RV) : Prop := ∀ v H' G' α', Le G G' → Pre α α' → Conc X.K ca L G' F α' S H' → RVR X.K ca G' F α' H' r v → Q v H'
theorem ToV.val {r : PV} {v : V} (h : ToV X ca L F G α S Q (.v r)) (C : Conc X.K ca L G F α S H) (rv : R X.K ca G α r v) : Q v H := h v H G α (Le.refl _) (Pre.refl _) C rv
theorem ToV.newL {ps : List PV} {vs : List V} {a : Addr} (h : ToV X ca L F G α S Q (.f (.lst ps))) (C : Conc X.K ca L G F α S H) (ha : H a = none) (r : Rs X.K ca G α ps vs) : Q (.ref a) (upd H a (.lst vs)) :=
  h (.ref a) _ G α (Le.refl _) (Pre.refl _) (C.new (o := .lst vs) ha) ⟨a, rfl, ⟨vs, upd_same, r⟩, C.an ha, C.gn ha, C.fn ha⟩
theorem ToV.newT {ps : List PV} {vs : List V} {a : Addr} (h : ToV X ca L F G α S Q (.v (.tup ps))) (C : Conc X.K ca L G F α S H) (ha : H a = none) (r : Rs X.K ca G α ps vs) : Q (.ref a) (upd H a (.tup vs)) :=
  have lg := Le.upd (o := .tup vs) (C.gn ha)
  h (.ref a) _ _ α lg (Pre.refl _) (C.newG (o := .tup vs) ha) (.tup (.inl (.inl upd_same)) (r.mono lg (Pre.refl _)))
theorem R.int_inv {K : PySem.W.Frag} {i : Int} {v : V} (r : R K ca G α (.int i) v) : v = .int i := by cases r; rfl
theorem R.bl_inv {K : PySem.W.Frag} {i : Bool} {v : V} (r : R K ca G α (.bl i) v) : v = .bl i := by cases r; rfl
theorem R.tup_inv {K : PySem.W.Frag} {ps : List PV} {v : V} (r : R K ca G α (.tup ps) v) : ∃ a vs, v = .ref a ∧ SqT K G a vs ∧ Rs K ca G α ps vs := by
  cases r with
  | tup h t => exact ⟨_, _, rfl, h, t⟩
/-- an operator by values -/
theorem evBin_ok {o : Bop} {op : Operator} {r : RV} (C : Conc X.K ca L G F α S H) (rp : R X.K ca G α p x) (rq : R X.K ca G α q y) (ho : okB o op = true) (h : evBin S o p q = some r) (t : ToV X ca L F G α S Q r) : wO X (binaryOp op) x y H Q := by
  have lists : ∀ {r : RV}, (if o = .add ∧ isLs p ∧ isLs q then (match seqOf S p, seqOf S q with
      | some xs, some ys => if xs.length + ys.length ≤ big then some (RV.f (.lst (xs ++ ys))) else none
      | _, _ => none) else none) = some r → ToV X ca L F G α S Q r → wO X (binaryOp op) x y H Q := fun {r} g t => by
    split at g
    · rename_i c
      obtain ⟨rfl, l1, l2⟩ := c
      cases op <;> first | (cases ho; done) | skip
      split at g
      · rename_i xs ys e1 e2
        split at g
        · rename_i hl
          cases g
          obtain ⟨a, vs, rfl, ha, t1⟩ := rp.seqL C l1 e1
          obtain ⟨b, us, rfl, hb, t2⟩ := rq.seqL C l2 e2
          refine ofO op_cat ⟨a, b, vs, us, rfl, rfl, ha, hb, ?_, fun c hc => t.newL C hc (t1.append t2)⟩
          rw [← t1.length, ← t2.length]
          exact hl
        · cases g
      · cases g
    · cases g
  unfold evBin at h
  split at h
  · rename_i i j
    obtain rfl := rp.int_inv
    obtain rfl := rq.int_inv
    cases e : binI o i j with
    | none => rw [e] at h; cases h  -- so
    | some z =>
      rw [e] at h
      cases h
      have fin : Q (.int z) H := t.val C (.int z)
      cases o <;> cases op <;> first | (cases ho; done) | skip
      · cases e; exact ofO op_add ⟨i, j, rfl, rfl, fin⟩
      · cases e; exact ofO op_sub ⟨i, j, rfl, rfl, fin⟩
      · simp only [binI] at e
        split at e
        · cases e; exact ofO op_mulB ⟨i, j, rfl, rfl, by assumption, fin⟩
        · cases e
      · simp only [binI] at e
        split at e
        · cases e; exact ofO op_fdivW ⟨i, j, rfl, rfl, by assumption, fin⟩
        · cases e
      · simp only [binI] at e
        split at e
        · cases e; exact ofO op_mod ⟨i, j, rfl, rfl, by assumption, fin⟩
        · cases e
      · simp only [binI] at e
        split at e
        · cases e; exact ofO op_powB ⟨i, j, rfl, rfl, by assumption, fin⟩
        · cases e
  · rename_i xs ys
    obtain ⟨a, vs, rfl, ha, t1⟩ := rp.tup_inv
    obtain ⟨b, us, rfl, hb, t2⟩ := rq.tup_inv
    split at h
    · rename_i c
      obtain ⟨rfl, hl⟩ := c
      cases h
      cases op <;> first | (cases ho; done) | skip
      refine ofO op_catA ⟨a, b, vs, us, rfl, rfl, C.gh.sqT ha, C.gh.sqT hb, by rw [← t1.length, ← t2.length]; exact hl, ?_⟩
      first
        | exact ⟨fun e => by subst e; cases t1; exact t.val C (.tup hb t2), fun e => by subst e; cases t2; rw [List.append_nil] at t; exact t.val C (.tup ha t1), fun _ _ c hc => t.newT C hc (t1.append t2)⟩
        | exact ⟨fun e => by subst e; cases t1; exact t.val C (.tup hb t2), fun _ e => by subst e; cases t2; rw [List.append_nil] at t; exact t.val C (.tup ha t1), fun _ _ c hc => t.newT C hc (t1.append t2)⟩
    · cases h
  · rename_i p k hne
    obtain rfl := rq.int_inv
    split at h
    · rename_i c
      obtain ⟨rfl, l1⟩ := c
      cases op <;> first | (cases ho; done) | skip
      split at h
      · rename_i xs e1
        split at h
        · rename_i hl
          cases h
          obtain ⟨a, vs, rfl, ha, t1⟩ := rp.seqL C l1 e1
          exact ofO op_rep ⟨a, k, vs, rfl, rfl, ha, hl.1, hl.2.1, by rw [← t1.length]; exact hl.2.2, fun c hc => t.newL C hc (t1.rep _)⟩
        · cases h
      · cases h
    · cases h
  · exact lists h t
end
end Ip

/-! IpSnd3: comparisons, subscripts, built-ins, methods by values. -/
namespace Ip
open PySem PySem.Spec PyProof.Rows L2  -- so
section
variable {ca : Nat → Addr} {L : Nat → Prop} {X : Cx} {F G H : Hp} {α : List Addr} {S : Store} {Q : VK} {p q : PV} {x y : V} {k : Nat}
theorem R.non_iff {K : PySem.W.Frag} (r : R K ca G α p x) : decide (x = .non) = (match p with | .non => true | _ => false) := by
  cases r <;> first | rfl | (exact decide_eq_false (by intro z; cases z))
theorem R.non_inv {K : PySem.W.Frag} {v : V} (r : R K ca G α .non v) : v = .non := by cases r; rfl
theorem evCmp_ok {o : Cop} {op : CmpOp} {c : Bool} (hr : Room k X.A) (C : Conc X.K ca L G F α S H) (rp : R X.K ca G α p x) (rq : R X.K ca G α q y) (ho : okC o op = true) (h : evCmp S o p q = some c) (t : Q (.bl c) H) : wO X (compareOp op) x y H Q := by
  have hu := rm_units hr
  have nums : ∀ {c : Bool}, cmpN o p q = some c → Q (.bl c) H → wO X (compareOp op) x y H Q := fun {c} g t => by
    unfold cmpN at g
    split at g
    · rename_i i j
      obtain rfl := rp.int_inv
      obtain rfl := rq.int_inv
      cases o <;> cases op <;> first | (cases ho; done) | (cases g; done) | skip
      · cases g; exact ofO op_lt ⟨i, j, rfl, rfl, t⟩
      · cases g; exact ofO op_le ⟨i, j, rfl, rfl, t⟩
      · cases g; exact ofO op_gt ⟨i, j, rfl, rfl, t⟩
      · cases g; exact ofO op_ge ⟨i, j, rfl, rfl, t⟩
    · cases g
  cases o with
  | eq =>
    cases op <;> first | (cases ho; done) | skip
    simp only [evCmp] at h
    split at h
    · rename_i d e h1 h2
      split at h
      · rename_i hf
        cases h
        exact ofO (op_eqP hu) ⟨d, e, rp.data C h1, rq.data C h2, hf.1, hf.2, t⟩
      · cases h
    · cases h
  | ne =>
    cases op <;> first | (cases ho; done) | skip
    simp only [evCmp] at h
    split at h
    · rename_i d e h1 h2
      split at h
      · rename_i hf
        cases h
        exact ofO (op_neP hu) ⟨d, e, rp.data C h1, rq.data C h2, hf.1, hf.2, t⟩
      · cases h
    · cases h
  | mem =>
    cases op <;> first | (cases ho; done) | skip
    simp only [evCmp] at h
    split at h
    · rename_i d e h1 h2
      split at h
      · rename_i hf
        cases h
        exact ofO (op_inP hu) ⟨d, e, rp.data C h1, .inl ⟨rq.data C h2, hf.2⟩, hf.1, t⟩
      · cases h
    · rename_i d e h1 h2
      split at h
      · rename_i hf
        cases h
        exact ofO (op_inP hu) ⟨d, e, rp.data C h1, .inr ⟨rq.data C h2, hf.2⟩, hf.1, t⟩
      · cases h
    · cases h
  | nmem =>
    cases op <;> first | (cases ho; done) | skip
    simp only [evCmp] at h
    split at h
    · rename_i d e h1 h2
      split at h
      · rename_i hf
        cases h
        exact ofO (op_ninP hu) ⟨d, e, rp.data C h1, .inl ⟨rq.data C h2, hf.2⟩, hf.1, t⟩
      · cases h
    · rename_i d e h1 h2
      split at h
      · rename_i hf
        cases h
        exact ofO (op_ninP hu) ⟨d, e, rp.data C h1, .inr ⟨rq.data C h2, hf.2⟩, hf.1, t⟩
      · cases h
    · cases h
  | is =>
    cases op <;> first | (cases ho; done) | skip
    simp only [evCmp] at h
    cases q <;> simp only [reduceCtorEq] at h
    obtain rfl := rq.non_inv
    refine ofO op_isN ⟨rfl, ?_⟩
    rw [rp.non_iff]
    cases p <;> simp only [Option.some.injEq] at h <;> subst h <;> exact t
  | isnot =>
    cases op <;> first | (cases ho; done) | skip
    simp only [evCmp] at h
    cases q <;> simp only [reduceCtorEq] at h
    obtain rfl := rq.non_inv
    refine ofO op_notN ⟨rfl, ?_⟩
    rw [rp.non_iff]
    cases p <;> simp only [Option.some.injEq] at h <;> subst h <;> exact t
  | lt => exact nums h t
  | le => exact nums h t
  | gt => exact nums h t
  | ge => exact nums h t
/-- a subscript -/
theorem evIdx_ok {r : PV} (C : Conc X.K ca L G F α S H) (rp : R X.K ca G α p x) (rq : R X.K ca G α q y) (h : evIdx S p q = some r) (t : ToV X ca L F G α S Q (.v r)) : wI X x y H Q := by
  unfold evIdx at h
  split at h
  · rename_i xs i e1
    obtain rfl := rq.int_inv
    split at h
    · rename_i j e2
      obtain ⟨a, vs, rfl, hs, ts⟩ := rp.seq C e1
      obtain ⟨v, e3, rv⟩ := ts.get' h
      have e4 : atI vs i = some v := by
        unfold atI
        rw [← ts.length, show ixN xs.length i = some j from e2]
        exact e3
      have fin := t.val C rv
      rcases hs with ⟨hs, _⟩ | ⟨hs, _⟩
      · exact ofI ix_list ⟨a, vs, i, v, rfl, rfl, hs, e4, fin⟩
      · exact ofI ix_tup ⟨a, vs, i, v, rfl, rfl, hs, e4, fin⟩
    · cases h
  · cases h
theorem Rs.cut {ps : List PV} {vs : List V} {K : PySem.W.Frag} (r : Rs K ca G α ps vs) (lo hi : Option Int) : Rs K ca G α ((ps.drop (cut ps.length 0 lo)).take (cut ps.length ps.length hi - cut ps.length 0 lo)) (cutV vs lo hi) := by
  unfold cutV
  rw [← r.length]
  exact (r.drop _).take _
/-! ### repr -/
def atomD : PyData → Bool
  | .none => true | .bool _ => true | .int _ => true | .str _ => true
  | _ => false
theorem atom_as {h : Heap} {v : Value} {d : PyData} {as : List Addr} (a : atomD d = true) (r : Reads h v d as) : as = [] := by
  cases r <;> first | rfl | cases a
theorem atoms_as {h : Heap} : ∀ {vs : List Value} {ds : List PyData} {as : List Addr}, ds.all atomD = true → ReadsAll h vs ds as → as = []
  | _, _, _, _, .nil => rfl
  | _, _, _, a, .cons r t => by
    simp only [List.all_cons, Bool.and_eq_true] at a
    rw [atom_as a.1 r, atoms_as a.2 t]
    rfl
theorem toDs_atoms {g : Nat → Option PyData} : ∀ {ps : List PV} {ds : List PyData}, ps.all PV.atom = true → PV.toDs g ps = some ds → ds.all atomD = true
  | [], _, _, h => by cases h; rfl  -- so
  | p :: ps, ds, a, h => by
    simp only [List.all_cons, Bool.and_eq_true] at a
    simp only [PV.toDs] at h
    cases e1 : PV.toD g p with
    | none => rw [e1] at h; cases h
    | some d =>
      cases e2 : PV.toDs g ps with
      | none => rw [e1, e2] at h; cases h
      | some es =>
        rw [e1, e2] at h
        cases h
        rw [List.all_cons, toDs_atoms a.2 e2, Bool.and_true]
        cases p <;> first | (cases a.1; done) | (cases e1; rfl)
theorem keys_atoms : ∀ kvs : List (Key × V), (kvs.map fun e => keyP e.1).all PV.atom = true
  | [] => rfl
  | (.inl _, _) :: r => by rw [List.map_cons, List.all_cons, keys_atoms r]; rfl
  | (.inr _, _) :: r => by rw [List.map_cons, List.all_cons, keys_atoms r]; rfl
mutual
theorem plain_nodict : ∀ d : PyData, d.plain = true → d.hasDict = false
  | .none, _ => rfl
  | .bool _, _ => rfl
  | .int _, _ => rfl
  | .str _, _ => rfl
  | .list xs, h => by
    simp only [PyData.hasDict]
    exact plain_nodicts xs (by simpa [PyData.plain] using h)
  | .tuple xs, h => by
    simp only [PyData.hasDict]
    exact plain_nodicts xs (by simpa [PyData.plain] using h)
  | .dict _, h => by simp [PyData.plain] at h
theorem plain_nodicts : ∀ ds : List PyData, PyData.plainAll ds = true → PyData.hasDictAll ds = false
  | [], _ => rfl
  | d :: ds, h => by
    simp only [PyData.plainAll, Bool.and_eq_true] at h
    simp only [PyData.hasDictAll, plain_nodict d h.1, plain_nodicts ds h.2, Bool.or_self]
end
/-- repr -/
theorem repr_ok {d : PyData} {v : V} (hg : X.A.guards = some []) (hr : Room k X.A) (C : Conc X.K ca L G F α S H) (r : R X.K ca G α p v) (e : dataOf S p = some d) (hf : (d.plain = true ∨ flatDct p = true) ∧ d.showable = true ∧ d.depth ≤ 64 ∧ d.shown.length + 64 ≤ big)
    (t : ToV X ca L F G α S Q (.v (.str d.shown))) : wC X (.builtin "repr") [v] H Q := by
  obtain ⟨h1, h2, h3, h4⟩ := hf
  have hu := rm_units hr
  have hz : d.shown.length ≤ sizeLine := by
    rw [sizeLine_eq]
    show _ ≤ 16777216
    have : big = 16777216 := rfl
    omega
  intro pins s σ us I rv
  cases rv with
  | cons rv rn =>
    cases rn
    rename_i u
    obtain ⟨as, rd⟩ := r.data C e X pins σ s u rfl I rv
    have fin : ∀ (h' : Heap) (tk1 tk2 : Tok), (∀ b o, s.heap.get? b = some o → h'.get? b = some o) → EP X pins σ Q (.str d.shown tk1) { s with heap := h', toks := tk2 } := fun h' tk1 tk2 hk =>
      ⟨.str d.shown, H, I.kept (t' := tk2) hk, ⟨tk1, rfl⟩, t.val C (.str _)⟩
    have finA : ∀ (tk1 tk2 : Tok), EP X pins σ Q (.str d.shown tk1) { s with toks := tk2 } := fun tk1 tk2 => fin s.heap tk1 tk2 fun _ _ z => z
    cases u with
    | ref a =>
      refine PySem.repr_of_reads' rd h2 (fun hd => ?_) hg (by omega) (fun _ _ z => z) (fun h' u tk hk => fin h' _ _ hk) hz
      rcases h1 with h1 | h1
      · rw [plain_nodict d h1] at hd
        cases hd
      · cases r with
        | dct hG hv =>
          rename_i a' kvs ps
          have ea : a' = a := by
            have z : Value.ref a = Value.ref a' := rv
            injection z with z
            exact z.symm
          subst ea
          obtain ⟨_, ns, _⟩ := I.hok _ _ (C.gh _ _ hG)
          simp only [dataOf, PV.toD] at e
          cases e1 : PV.toDs (cellD S 4) (kvs.map fun e => keyP e.1) with
          | none => rw [e1] at e; cases e
          | some ks =>
            cases e2 : PV.toDs (cellD S 4) ps with
            | none => rw [e1, e2] at e; cases e
            | some ds =>
              rw [e1, e2] at e
              simp only at e
              split at e
              · rename_i hl
                cases e
                obtain ⟨z1, z2⟩ := zip_fst hl
                have q1 := toDs_atoms (keys_atoms kvs) e1
                have q2 := toDs_atoms (show ps.all PV.atom = true from h1) e2
                cases rd with
                | dict ho hc hdd k1 k2 =>
                  rw [z1] at k1
                  rw [z2] at k2
                  rw [atoms_as q1 k1, atoms_as q2 k2]
                  intro m
                  have : sysModules = a' := by simpa using m
                  rw [this] at ns
                  simp at ns
              · cases e
        | _ => cases h1
    | none =>
      cases rd
      exact PySem.P.repr_of_none (finA _ _)
    | bool b =>
      cases rd
      exact PySem.P.repr_of_bool (finA _ _)
    | int i tk =>
      cases rd
      exact PySem.P.repr_of_int (of_decide_eq_true h2) (finA _ _)
    | str x tk =>
      cases rd
      exact PySem.P.repr_of_str (finA _ _) hz
    | _ => cases rd
/-- a built-in by values -/
theorem evBi_ok {b : Bi} {ps : List PV} {vs : List V} {r : RV} (hc : X.calm = true) (hg : X.A.guards = some []) (hr : Room k X.A) (C : Conc X.K ca L G F α S H) (rp : Rs X.K ca G α ps vs) (h : evBi S b ps = some r) (t : ToV X ca L F G α S Q r) :
    (∀ id, (b = .len ∧ id = "len") ∨ (b = .sum ∧ id = "sum") ∨ (b = .all ∧ id = "all") ∨ (b = .any ∧ id = "any") ∨ (b = .abs ∧ id = "abs") ∨ (b = .max ∧ id = "max") ∨ (b = .min ∧ id = "min") ∨ (b = .repr ∧ id = "repr") → wC X (.builtin id) vs H Q) ∧
    (∀ T, (b = .tuple ∧ T = "tuple") ∨ (b = .list ∧ T = "list") ∨ (b = .int ∧ T = "int") → wC X (.type T) vs H Q) := by
  have hu := rm_units hr
  unfold evBi at h
  split at h
  · -- len
    refine ⟨fun id hid => ?_, fun T hT => by simp at hT⟩
    obtain rfl : id = "len" := by simpa using hid
    cases rp with
    | cons r0 rn =>
      cases rn
      rename_i p' v'
      cases e : seqOf S p' with
      | none => rw [e] at h; cases h  -- so
      | some xs =>
        rw [e] at h
        cases h
        obtain ⟨a, us, rfl, hs, ts⟩ := r0.seq C e
        exact ofC call_len_seq ⟨a, us, rfl, hs.imp And.left And.left, by rw [← ts.length]; exact t.val C (.int _)⟩
  · -- sum
    refine ⟨fun id hid => ?_, fun T hT => by simp at hT⟩
    obtain rfl : id = "sum" := by simpa using hid
    cases rp with
    | cons r0 rn =>
      cases rn
      rename_i p' v'
      split at h
      · rename_i hl
        cases e : seqOf S p' with
        | none => rw [e] at h; cases h  -- so
        | some xs =>
          rw [e] at h
          cases e2 : intsOf xs with
          | none => simp only [Option.bind_some, e2] at h; cases h
          | some ns =>
            simp only [Option.bind_some, e2] at h
            cases h
            obtain ⟨a, us, rfl, hs, ts⟩ := r0.seqL C hl e
            have := ts.ints e2
            subst this
            exact ofC (cr_sum hc) ⟨a, ns, rfl, .inl (.inl hs), t.val C (.int _)⟩
      · cases h
  · -- all
    refine ⟨fun id hid => ?_, fun T hT => by simp at hT⟩
    obtain rfl : id = "all" := by simpa using hid
    cases rp with
    | cons r0 rn =>
      cases rn
      rename_i p' v'
      split at h
      · rename_i hl
        cases e : seqOf S p' with
        | none => rw [e] at h; cases h  -- so
        | some xs =>
          rw [e] at h
          cases e2 : boolsOf xs with
          | none => simp only [Option.bind_some, e2] at h; cases h
          | some ns =>
            simp only [Option.bind_some, e2] at h
            cases h
            obtain ⟨a, us, rfl, hs, ts⟩ := r0.seqL C hl e
            have := ts.bools e2
            subst this
            exact ofC (cr_all hc) ⟨a, ns, rfl, .inl (.inl hs), t.val C (.bl _)⟩
      · cases h
  · -- any
    refine ⟨fun id hid => ?_, fun T hT => by simp at hT⟩
    obtain rfl : id = "any" := by simpa using hid
    cases rp with
    | cons r0 rn =>
      cases rn
      rename_i p' v'
      split at h
      · rename_i hl
        cases e : seqOf S p' with
        | none => rw [e] at h; cases h  -- so
        | some xs =>
          rw [e] at h
          cases e2 : boolsOf xs with
          | none => simp only [Option.bind_some, e2] at h; cases h
          | some ns =>
            simp only [Option.bind_some, e2] at h
            cases h
            obtain ⟨a, us, rfl, hs, ts⟩ := r0.seqL C hl e
            have := ts.bools e2
            subst this
            exact ofC (cr_any hc) ⟨a, ns, rfl, .inl (.inl hs), t.val C (.bl _)⟩
      · cases h
  · -- tuple
    refine ⟨fun id hid => by simp at hid, fun T hT => ?_⟩
    obtain rfl : T = "tuple" := by simpa using hT
    cases rp with
    | cons r0 rn =>
      cases rn
      rename_i p' v'
      cases e : seqOf S p' with
      | none => rw [e] at h; cases h  -- so
      | some xs =>
        rw [e] at h
        cases h
        obtain ⟨a, us, rfl, hs, ts⟩ := r0.seq C e
        rcases hs with ⟨hs, _⟩ | ⟨hs, rfl⟩
        · exact ofC call_tuple_of ⟨a, us, rfl, .inl ⟨hs, fun l hl => t.newT C hl ts⟩⟩
        · refine ofC call_tuple_of ⟨a, us, rfl, .inr ⟨hs, ?_⟩⟩
          exact t.val C r0
  · -- list
    refine ⟨fun id hid => by simp at hid, fun T hT => ?_⟩
    obtain rfl : T = "list" := by simpa using hT
    cases rp with
    | cons r0 rn =>
      cases rn
      rename_i p' v'
      cases e : seqOf S p' with
      | none => rw [e] at h; cases h  -- so
      | some xs =>
        rw [e] at h
        cases h
        obtain ⟨a, us, rfl, hs, ts⟩ := r0.seq C e
        exact ofC call_list_of ⟨a, us, rfl, hs.imp And.left And.left, fun l hl => t.newL C hl ts⟩
  · -- int
    refine ⟨fun id hid => by simp at hid, fun T hT => ?_⟩
    obtain rfl : T = "int" := by simpa using hT
    cases h
    cases rp with
    | cons r0 rn =>
      cases rn
      obtain rfl := r0.int_inv
      exact ofC call_int1 (.inl ⟨_, rfl, t.val C (.int _)⟩)
  · refine ⟨fun id hid => by simp at hid, fun T hT => ?_⟩
    obtain rfl : T = "int" := by simpa using hT
    cases h
    cases rp with
    | cons r0 rn =>
      cases rn
      obtain rfl := r0.bl_inv
      exact ofC call_int1 (.inr ⟨_, rfl, t.val C (.int _)⟩)
  · refine ⟨fun id hid => ?_, fun T hT => by simp at hT⟩
    obtain rfl : id = "abs" := by simpa using hid
    cases h
    cases rp with
    | cons r0 rn =>
      cases rn
      obtain rfl := r0.int_inv
      exact ofC call_abs ⟨_, rfl, t.val C (.int _)⟩
  · refine ⟨fun id hid => ?_, fun T hT => by simp at hT⟩
    obtain rfl : id = "max" := by simpa using hid
    cases h
    cases rp with
    | cons r0 rn =>
      cases rn with
      | cons r1 rn =>
        cases rn
        obtain rfl := r0.int_inv
        obtain rfl := r1.int_inv
        exact ofC (call_max2 hc) ⟨_, _, rfl, t.val C (.int _)⟩
  · refine ⟨fun id hid => ?_, fun T hT => by simp at hT⟩
    obtain rfl : id = "min" := by simpa using hid
    cases h
    cases rp with
    | cons r0 rn =>
      cases rn with
      | cons r1 rn =>
        cases rn
        obtain rfl := r0.int_inv
        obtain rfl := r1.int_inv
        exact ofC (call_min2 hc) ⟨_, _, rfl, t.val C (.int _)⟩
  · refine ⟨fun id hid => ?_, fun T hT => by simp at hT⟩
    obtain rfl : id = "repr" := by simpa using hid
    cases rp with
    | cons r0 rn =>
      cases rn
      split at h
      · rename_i d e
        split at h
        · rename_i hf
          cases h
          exact repr_ok hg hr C r0 e hf t
        · cases h
      · cases h
  · cases h
end
end Ip

/-! IpSnd4: methods, slices, stores; expressions. -/
namespace Ip
open PySem PySem.Spec PyProof.Rows L2  -- so
def wM (X : Cx) (id : String) : V → List V → Hp → VK → Prop := fun x xs H Q => ∀ (pins : List (Addr × Obj)) (s : Shared) (σ : L2.St) (v : Value) (us : List Value), L2.Inv X pins σ H s → RelV x v → Vals xs us → wpAny (model X.prog X.w) X.A (call (.builtin id) (v :: us)) (EP X pins σ Q) X.xe s
theorem mR (X : Cx) (id : String) : MtR X id (wM X id) := fun pins s σ H x xs v us Q I rx rv h => h pins s σ v us I rx rv
section
variable {ca : Nat → Addr} {L : Nat → Prop} {X : Cx} {F G H : Hp} {α : List Addr} {S : Store} {Q : VK} {p q : PV} {x y : V} {k n0 : Nat}
theorem ofM {id : String} {r : V → List V → Hp → VK → Prop} {xs : List V} (h : MtR X id r) (q : r x xs H Q) : wM X id x xs H Q := fun pins s σ v us I rx rv => h pins s σ H x xs v us Q I rx rv q
theorem hold_pure {m : Nat} {v : PV} (hL : ∀ m, L m → m ≤ n0) (h : mayHold n0 k v = true) (hm : L m) (hk : k < m) : v.pure = true := by
  simp only [mayHold, Bool.or_eq_true, decide_eq_true_eq] at h
  rcases h with h | h
  · have := hL m hm
    omega
  · exact h
theorem holds_pure {m : Nat} {vs : List PV} (hL : ∀ m, L m → m ≤ n0) (h : vs.all (mayHold n0 k) = true) (hm : L m) (hk : k < m) : PV.pures vs = true := by
  induction vs with
  | nil => rfl
  | cons v vs ih =>
    simp only [List.all_cons, Bool.and_eq_true] at h  -- so
    simp only [PV.pures, Bool.and_eq_true]
    exact ⟨hold_pure hL h.1 hm hk, ih h.2⟩
theorem Conc.list {xs : List PV} {a : Addr} (C : Conc X.K ca L G F α S H) (e : S[k]? = some (.lst xs)) (hk : α[k]? = some a) : ∃ vs, H a = some (.lst vs) ∧ Rs X.K ca G α xs vs ∧ ∀ m, L m → k < m → Rs X.K ca G (α.take m) xs vs := by
  obtain ⟨vs, h1, t⟩ := C.cell k _ a e hk
  refine ⟨vs, h1, t, fun m hm hkm => ?_⟩
  obtain ⟨us, h2, t2⟩ := C.old m hm k _ a hkm e hk
  rw [h1] at h2
  cases h2
  exact t2
/-- a method by values -/
abbrev ToM (X : Cx) (ca : Nat → Addr) (L : Nat → Prop) (F G : Hp) (α : List Addr) (S : Store) (Q : VK) (r : PV) : Prop := ∀ v H' G' α', Le G G' → Pre α α' → Conc X.K ca L G' F α' S H' → R X.K ca G' α' r v → Q v H'
theorem evMe_ok {m : Me} {ps : List PV} {vs : List V} {r : PV} {S' : Store} (hL : ∀ m, L m → m ≤ n0) (C : Conc X.K ca L G F α S H) (rp : R X.K ca G α p x) (rs : Rs X.K ca G α ps vs) (h : evMe n0 S m p ps = some (r, S')) (t : ToM X ca L F G α S' Q r) :
    (∃ a us, x = .ref a ∧ H a = some (.lst us)) ∧ wM X (meId m) x vs H Q := by
  cases rp with
  | loc hk =>
    rename_i kk a
    simp only [evMe] at h
    split at h
    · rename_i xs e
      obtain ⟨us, ha, tu, told⟩ := C.list e hk
      refine ⟨⟨a, us, rfl, ha⟩, ?_⟩
      split at h
      · rename_i p'
        split at h
        · rename_i hf
          cases h
          cases rs with
          | cons r0 rn =>
            cases rn
            rename_i v'
            refine ofM mt_append ⟨a, us, v', rfl, rfl, ha, ?_, ?_⟩
            · rw [← tu.length, sizeLine_eq]
              exact hf.1
            · exact t .non _ G α (Le.refl _) (Pre.refl _) (C.write hk ⟨_, upd_same, tu.append (.cons r0 .nil)⟩ fun m hm hkm => ⟨_, upd_same, (told m hm hkm).append (.cons (r0.pure (hold_pure hL hf.2 hm hkm)) .nil)⟩) .non
        · cases h
      · rename_i p'
        split at h
        · rename_i hl
          split at h
          · rename_i ys e2
            split at h
            · rename_i hf
              cases h
              cases rs with
              | cons r0 rn =>
                cases rn
                obtain ⟨b, ws, rfl, hb, tw⟩ := r0.seqL C hl e2
                refine ofM mt_extend ⟨a, b, us, ws, rfl, rfl, ha, hb, ?_, ?_⟩
                · rw [← tu.length, ← tw.length]
                  exact hf.1
                · exact t .non _ G α (Le.refl _) (Pre.refl _) (C.write hk ⟨_, upd_same, tu.append tw⟩ fun m hm hkm => ⟨_, upd_same, (told m hm hkm).append (tw.pure (holds_pure hL hf.2 hm hkm))⟩) .non
            · cases h
          · cases h
        · cases h
      · rename_i i
        split at h
        · rename_i hf
          split at h
          · rename_i j e2
            split at h
            · rename_i y e3
              cases h
              cases rs with
              | cons r0 rn =>
                cases rn
                obtain rfl := r0.int_inv
                obtain ⟨v, e4, rv⟩ := tu.get' e3
                refine ofM mt_popAt ⟨a, us, _, j, v, rfl, rfl, ha, hf.1, hf.2, ?_, e4, ?_⟩
                · rw [← tu.length]
                  exact (ixN_seq e2).1
                · exact t v _ G α (Le.refl _) (Pre.refl _) (C.write hk ⟨_, upd_same, tu.erase j⟩ fun m hm hkm => ⟨_, upd_same, (told m hm hkm).erase j⟩) rv
            · cases h
          · cases h
        · cases h
      · cases h
    · cases h
  | _ => simp [evMe] at h
/-- o[i] = v -/
theorem putAt_ok {o i v : PV} {ov iv vv : V} {S' : Store} {Qs : Hp → Prop} (hL : ∀ m, L m → m ≤ n0) (C : Conc X.K ca L G F α S H) (ro : R X.K ca G α o ov) (ri : R X.K ca G α i iv) (rv : R X.K ca G α v vv) (h : putAt n0 S o i v = some S')
    (t : ∀ H' , Conc X.K ca L G F α S' H' → Qs H') : rSetL ov iv vv H Qs := by
  cases ro with
  | loc hk =>
    rename_i kk a
    cases i with
    | int j =>
      obtain rfl := ri.int_inv
      simp only [putAt] at h
      split at h
      · rename_i xs e
        obtain ⟨us, ha, tu, told⟩ := C.list e hk
        split at h
        · rename_i m e2
          split at h
          · rename_i hf
            cases h
            refine ⟨a, us, j, m, rfl, rfl, ha, by rw [← tu.length]; exact e2, ?_⟩
            exact t _ (C.write hk ⟨_, upd_same, Rs.set rv m tu⟩ fun m' hm hkm => ⟨_, upd_same, Rs.set (rv.pure (hold_pure hL hf hm hkm)) m (told m' hm hkm)⟩)
          · cases h
        · cases h
      · cases h
    | _ => simp [putAt] at h
  | _ => simp [putAt] at h
end
/-! ### expressions -/
section
variable {P : Pg} {cf : Nat → List PV → Store → Out RV} {n0 : Nat} {ca : Nat → Addr} {L : Nat → Prop} {X : Cx} {W : WX} {T : Tab} {N : List Str} {w n k : Nat}
theorem se_bin {o : Bop} {op : Operator} {a b : IE} {x y : Expr} {pos : Pos} (ho : okB o op = true) (ha : SE P cf n0 ca L X W a x) (hb : SE P cf n0 ca L X W b y) : SE P cf n0 ca L X W (.bin o a b) (.BinOp x op y pos) := fun F ρ S σ H G α Q C hE h => by
  simp only [evalE] at h
  refine ofE (pe_op (oR (binaryOp op)) (pE x) (pE y)) (ha.p.two hb.p C hE (h.bind.mono (fun p S1 h1 => h1.bind.mono (fun q S2 h2 v u H' G' α' l pr C' rp rq => ?_) fun _ _ _ z => z) fun _ _ _ z => z))
  split at h2
  · rename_i r e
    exact evBin_ok C' rp rq ho e fun v2 H2 G2 α2 l2 p2 C2 r2 => h2 v2 H2 G2 α2 (l.trans l2) (pr.trans p2) C2 r2
  · exact h2.elim
theorem se_cmp {o : Cop} {op : CmpOp} {a b : IE} {x y : Expr} {pos : Pos} (hr : Room k X.A) (ho : okC o op = true) (hm : behindInMarks op y = false) (ha : SE P cf n0 ca L X W a x) (hb : SE P cf n0 ca L X W b y) : SE P cf n0 ca L X W (.cmp o a b) (.Compare x [op] [y] pos) := fun F ρ S σ H G α Q C hE h => by
  simp only [evalE] at h
  refine ofE (pe_cmpR (oR (compareOp op)) (pE x) (pE y) hm) (ha.p.two hb.p C hE (h.bind.mono (fun p S1 h1 => h1.bind.mono (fun q S2 h2 v u H' G' α' l pr C' rp rq => ?_) fun _ _ _ z => z) fun _ _ _ z => z))
  split at h2
  · rename_i c e
    exact evCmp_ok hr C' rp rq ho e (h2 (.bl c) H' G' α' l pr C' (.bl c))
  · exact h2.elim
theorem se_neg {a : IE} {x : Expr} {pos : Pos} (ha : SE P cf n0 ca L X W a x) : SE P cf n0 ca L X W (.neg a) (.UnaryOp .USub x pos) := fun F ρ S σ H G α Q C hE h => by
  simp only [evalE] at h
  refine ofE (pe_un un_neg (pE x)) (ha F ρ S σ H G α _ C hE (h.bind.mono (fun r S1 h1 v H' G' α' l pr C' rv => ?_) fun _ _ _ z => z))
  split at h1
  · obtain rfl := R.int_inv rv
    exact ⟨_, rfl, h1 _ H' G' α' l pr C' (.int _)⟩
  · exact h1.elim
theorem se_not {a : IE} {x : Expr} {pos : Pos} (ha : SE P cf n0 ca L X W a x) : SE P cf n0 ca L X W (.not a) (.UnaryOp .Not x pos) := fun F ρ S σ H G α Q C hE h => by
  simp only [evalE] at h
  refine ofE (pe_not (pE x)) (ha F ρ S σ H G α _ C hE (h.bind.mono (fun r S1 h1 v H' G' α' l pr C' rv => ?_) fun _ _ _ z => z))
  split at h1
  · obtain rfl := R.bl_inv rv
    exact ⟨_, rfl, h1 _ H' G' α' l pr C' (.bl _)⟩
  · exact h1.elim
theorem se_and {a b : IE} {x y : Expr} {rest : List Expr} {pos : Pos} (ha : SE P cf n0 ca L X W a x) (hb : SE P cf n0 ca L X W b (.BoolOp .And (y :: rest) pos)) : SE P cf n0 ca L X W (.and a b) (.BoolOp .And (x :: y :: rest) pos) := fun F ρ S σ H G α Q C hE h => by
  simp only [evalE] at h
  refine ofE (pe_and (pE x) (pE _)) (ha F ρ S σ H G α _ C hE (h.bind.mono (fun r S1 h1 v H' G' α' l pr C' rv => ?_) fun _ _ _ z => z))
  split at h1
  · obtain rfl := R.bl_inv rv
    refine ⟨true, rfl, ?_⟩
    show wE X _ σ H' Q
    refine hb F ρ S1 σ H' G' α' Q C' (hE.mono l pr) (h1.bind.mono (fun r2 S2 h2 v2 H2 G2 α2 l2 p2 C2 rv2 => ?_) fun _ _ _ z => z.mono l pr)
    split at h2
    · exact h2 v2 H2 G2 α2 (l.trans l2) (pr.trans p2) C2 rv2
    · exact h2.elim
  · obtain rfl := R.bl_inv rv
    exact ⟨false, rfl, h1 _ H' G' α' l pr C' (.bl _)⟩
  · exact h1.elim
theorem se_or {a b : IE} {x y : Expr} {rest : List Expr} {pos : Pos} (ha : SE P cf n0 ca L X W a x) (hb : SE P cf n0 ca L X W b (.BoolOp .Or (y :: rest) pos)) : SE P cf n0 ca L X W (.or a b) (.BoolOp .Or (x :: y :: rest) pos) := fun F ρ S σ H G α Q C hE h => by
  simp only [evalE] at h
  refine ofE (pe_or (pE x) (pE _)) (ha F ρ S σ H G α _ C hE (h.bind.mono (fun r S1 h1 v H' G' α' l pr C' rv => ?_) fun _ _ _ z => z))
  split at h1
  · obtain rfl := R.bl_inv rv
    refine ⟨false, rfl, ?_⟩
    show wE X _ σ H' Q
    refine hb F ρ S1 σ H' G' α' Q C' (hE.mono l pr) (h1.bind.mono (fun r2 S2 h2 v2 H2 G2 α2 l2 p2 C2 rv2 => ?_) fun _ _ _ z => z.mono l pr)
    split at h2
    · exact h2 v2 H2 G2 α2 (l.trans l2) (pr.trans p2) C2 rv2
    · exact h2.elim
  · obtain rfl := R.bl_inv rv
    exact ⟨true, rfl, h1 _ H' G' α' l pr C' (.bl _)⟩
  · exact h1.elim
theorem se_one {op : PySem.BoolOp} {a : IE} {x : Expr} {pos : Pos} (ha : SE P cf n0 ca L X W a x) : SE P cf n0 ca L X W a (.BoolOp op [x] pos) := fun F ρ S σ H G α Q C hE h =>
  ofE (pe_one (pE x)) (ha F ρ S σ H G α Q C hE h)
theorem se_chain {o o' : Cop} {op op' : CmpOp} {a b c : IE} {x y z : Expr} {pos : Pos} (hr : Room k X.A) (ho : okC o op = true) (ho' : okC o' op' = true) (hm : lastMarks [op, op'] [y, z] = false) (ha : SE P cf n0 ca L X W a x) (hb : SE P cf n0 ca L X W b y) (hc : SE P cf n0 ca L X W c z) :
    SE P cf n0 ca L X W (.chain o o' a b c) (.Compare x [op, op'] [y, z] pos) := fun F ρ S σ H G α Q C hE h => by
  simp only [evalE] at h
  refine ofE (pe_chain (oR (compareOp op)) (oR (compareOp op')) (pE x) (pE y) (pE z) hm) (ha.p.two hb.p C hE (h.bind.mono (fun p S1 h1 => h1.bind.mono (fun q S2 h2 v u H' G' α' l pr C' rp rq => ?_) fun _ _ _ z => z) fun _ _ _ z => z))
  split at h2
  · rename_i e
    refine evCmp_ok hr C' rp rq ho e ⟨true, rfl, ?_⟩
    show wE X z σ H' _
    refine hc.p F ρ S2 σ H' G' α' _ C' (hE.mono l pr) (h2.bind.mono (fun r S3 h3 v3 H3 G3 α3 l3 p3 C3 r3 => ?_) fun _ _ _ z => z.mono l pr)
    split at h3
    · rename_i d e2
      exact evCmp_ok hr C3 (rq.mono l3 p3) r3 ho' e2 (h3 (.bl d) H3 G3 α3 (l.trans l3) (pr.trans p3) C3 (.bl d))
    · exact h3.elim
  · rename_i e
    refine evCmp_ok hr C' rp rq ho e ⟨false, rfl, ?_⟩
    exact h2 (.bl false) H' G' α' l pr C' (.bl false)
  · exact h2.elim
theorem plainIx {y : Expr} (h : noSlice y = true) : PlainIx y := fun o i => by
  cases y <;> first | rfl | cases h
theorem se_idx {a b : IE} {x y : Expr} {pos : Pos} (hy : noSlice y = true) (ha : SE P cf n0 ca L X W a x) (hb : SE P cf n0 ca L X W b y) : SE P cf n0 ca L X W (.idx a b) (.Subscript x y pos) := fun F ρ S σ H G α Q C hE h => by
  simp only [evalE] at h
  refine ofE (pe_ix iR (pE x) (pE y) (plainIx hy)) (ha.p.two hb.p C hE (h.bind.mono (fun p S1 h1 => h1.bind.mono (fun q S2 h2 v u H' G' α' l pr C' rp rq => ?_) fun _ _ _ z => z) fun _ _ _ z => z))
  split at h2
  · rename_i r e
    exact evIdx_ok C' rp rq e fun v2 H2 G2 α2 l2 p2 C2 r2 => h2 v2 H2 G2 α2 (l.trans l2) (pr.trans p2) C2 r2
  · exact h2.elim
theorem se_alloc {e : IE} {x : Expr} (he : SE P cf n0 ca L X W e x) : SE P cf n0 ca L X W (.alloc e) x := fun F ρ S σ H G α Q C hE h => by
  simp only [evalE] at h
  refine he F ρ S σ H G α Q C hE (h.bind.mono (fun r S1 h1 v H' G' α' l pr C' rv => ?_) fun _ _ _ z => z)
  split at h1
  · rename_i c
    obtain ⟨a, rfl, hc, hn, hg, hf⟩ := rv
    refine h1 (.ref a) H' G' (α' ++ [a]) l (pr.trans (Pre.app _ _)) (C'.push hc hg hf hn) (.loc ?_)
    rw [← C'.len, List.getElem?_append_right (Nat.le_refl _), Nat.sub_self]
    rfl
  · exact h1.elim
end
end Ip

/-! IpSnd5: tests, calls, displays of dicts, slices, what is walked, comprehensions. -/
namespace Ip
open PySem PySem.Spec PyProof.Rows L2  -- so
section
variable {P : Pg} {cf : Nat → List PV → Store → Out RV} {n0 : Nat} {ca : Nat → Addr} {L : Nat → Prop} {X : Cx} {W : WX} {T : Tab} {N : List Str} {w n k : Nat}
variable (P cf n0 ca L X W) in
def ST (e : IE) (x : Expr) : Prop := ∀ (F : Hp) (ρ : Rho) (S : Store) (σ : L2.St) (H G : Hp) (α : List Addr) (Q : Bool → Hp → Prop), Conc X.K ca L G F α S H → EnvR X.K ca G α ρ σ →
  OutE (evalT P cf n0 e ρ S) (fun b S' => ∀ H' G' α', Le G G' → Pre α α' → Conc X.K ca L G' F α' S' H' → Q b H') (XP X.K ca L F (fun c d H' => W c d σ H') G α) → wT X x σ H Q
theorem plainT_ok {x : Expr} {env : PySem.Env} (h : plainT x = true) (whole : Sem Value) : isTrue x env whole = (do let v ← whole; standAt x.pos; holding [v] (truthy v)) := by
  cases x with
  | UnaryOp op y p => cases op <;> first | rfl | cases h
  | BoolOp => cases h
  | IfExp => cases h
  | Compare => cases h
  | _ => rfl
theorem st_val {e : IE} {x : Expr} (h : SE P cf n0 ca L X W e x) (hx : plainT x = true) : ST P cf n0 ca L X W e x := fun F ρ S σ H G α Q C hE o => by
  unfold evalT at o
  refine ofT (pt_val (pE x) (plainT_ok hx)) (h F ρ S σ H G α _ C hE (o.bind.mono (fun r S1 h1 v H' G' α' l pr C' rv => ?_) fun _ _ _ z => z))
  split at h1
  · obtain rfl := R.bl_inv rv
    exact ⟨_, rfl, h1 H' G' α' l pr C'⟩
  · exact h1.elim
theorem st_cmp {o : Cop} {op : CmpOp} {a b : IE} {x y : Expr} {pos : Pos} (hr : Room k X.A) (ho : okC o op = true) (hm : behindInMarks op y = false) (ha : SE P cf n0 ca L X W a x) (hb : SE P cf n0 ca L X W b y) : ST P cf n0 ca L X W (.cmp o a b) (.Compare x [op] [y] pos) := fun F ρ S σ H G α Q C hE h => by
  simp only [evalT, evalE] at h
  have h := h.bind
  refine ofT (pt_cmpR (oR (compareOp op)) (pE x) (pE y) hm) (ha.p.two hb.p C hE (h.bind.mono (fun p S1 h1 => h1.bind.mono (fun q S2 h2 v u H' G' α' l pr C' rp rq => ?_) fun _ _ _ z => z) fun _ _ _ z => z))
  split at h2
  · rename_i c e
    exact evCmp_ok hr C' rp rq ho e ⟨c, rfl, h2 H' G' α' l pr C'⟩
  · exact h2.elim
theorem st_chain {o o' : Cop} {op op' : CmpOp} {a b c : IE} {x y z : Expr} {pos : Pos} (hr : Room k X.A) (ho : okC o op = true) (ho' : okC o' op' = true) (hm : lastMarks [op, op'] [y, z] = false) (ha : SE P cf n0 ca L X W a x) (hb : SE P cf n0 ca L X W b y) (hc : SE P cf n0 ca L X W c z) :
    ST P cf n0 ca L X W (.chain o o' a b c) (.Compare x [op, op'] [y, z] pos) := fun F ρ S σ H G α Q C hE h => by
  simp only [evalT, evalE] at h
  have h := h.bind
  refine ofT (pt_chain (oR (compareOp op)) (oR (compareOp op')) (pE x) (pE y) (pE z) hm) (ha.p.two hb.p C hE (h.bind.mono (fun p S1 h1 => h1.bind.mono (fun q S2 h2 v u H' G' α' l pr C' rp rq => ?_) fun _ _ _ z => z) fun _ _ _ z => z))
  split at h2
  · rename_i e
    refine evCmp_ok hr C' rp rq ho e ⟨true, rfl, ?_⟩
    show wE X z σ H' _
    refine hc.p F ρ S2 σ H' G' α' _ C' (hE.mono l pr) (h2.bind.mono (fun r S3 h3 v3 H3 G3 α3 l3 p3 C3 r3 => ?_) fun _ _ _ z => z.mono l pr)
    split at h3
    · rename_i d e2
      exact evCmp_ok hr C3 (rq.mono l3 p3) r3 ho' e2 ⟨d, rfl, h3 H3 G3 α3 (l.trans l3) (pr.trans p3) C3⟩
    · exact h3.elim
  · rename_i e
    exact evCmp_ok hr C' rp rq ho e ⟨false, rfl, (⟨false, rfl, h2 H' G' α' l pr C'⟩ : ∃ k, V.bl false = V.bl k ∧ Q k H')⟩
  · exact h2.elim
theorem st_not {a : IE} {x : Expr} {pos : Pos} (ha : ST P cf n0 ca L X W a x) : ST P cf n0 ca L X W (.not a) (.UnaryOp .Not x pos) := fun F ρ S σ H G α Q C hE h => by
  simp only [evalT, evalE] at h
  refine ofT (pt_not (pT x)) (ha F ρ S σ H G α _ C hE ?_)
  unfold evalT
  cases e : evalE P cf n0 a ρ S with
  | ok r S1 =>
    rw [e] at h
    simp only [Out.bind_ok] at h ⊢
    split at h
    · exact h
    · exact h
  | exn c v S1 => rw [e] at h; exact h
  | bad => rw [e] at h; exact h
/-- the whole of and, or is not looked at -/
theorem wP {op : PySem.BoolOp} {vs : List Expr} {pos : Pos} : PW X (.BoolOp op vs pos) (wT X (.BoolOp op vs pos)) := ⟨fun whole pins s σ H Q I h => h pins s I⟩
theorem st_one {op : PySem.BoolOp} {a : IE} {x : Expr} {pos : Pos} (ha : ST P cf n0 ca L X W a x) : ST P cf n0 ca L X W a (.BoolOp op [x] pos) := fun F ρ S σ H G α Q C hE h => by
  cases op with
  | And => exact ofT (pw_and1 (pT x)).pt (ha F ρ S σ H G α Q C hE h)
  | Or => exact ofT (pw_or1 (pT x)).pt (ha F ρ S σ H G α Q C hE h)
theorem st_and {a b : IE} {x y : Expr} {rest : List Expr} {pos : Pos} (ha : ST P cf n0 ca L X W a x) (hb : ST P cf n0 ca L X W b (.BoolOp .And (y :: rest) pos)) : ST P cf n0 ca L X W (.and a b) (.BoolOp .And (x :: y :: rest) pos) := fun F ρ S σ H G α Q C hE h => by
  simp only [evalT, evalE] at h
  refine ofT (pw_and (pT x) wP).pt (ha F ρ S σ H G α _ C hE ?_)
  unfold evalT
  cases e : evalE P cf n0 a ρ S with
  | ok r S1 =>
    rw [e] at h
    simp only [Out.bind_ok] at h ⊢
    split at h
    · intro H' G' α' l pr C'
      show wT X _ σ H' Q
      refine hb F ρ S1 σ H' G' α' Q C' (hE.mono l pr) ?_
      unfold evalT
      cases e2 : evalE P cf n0 b ρ S1 with
      | ok r2 S2 =>
        rw [e2] at h
        simp only [Out.bind_ok] at h ⊢
        split at h
        · exact fun H2 G2 α2 l2 p2 C2 => h H2 G2 α2 (l.trans l2) (pr.trans p2) C2
        · exact h
      | exn c v S2 =>
        rw [e2] at h
        have h' : XP X.K ca L F (fun c d H' => W c d σ H') G α c v S2 := h
        exact h'.mono l pr
      | bad => rw [e2] at h; exact h
    · intro H' G' α' l pr C'
      exact h H' G' α' l pr C'
    · exact False.elim h
  | exn c v S1 => rw [e] at h; exact h
  | bad => rw [e] at h; exact h
theorem st_or {a b : IE} {x y : Expr} {rest : List Expr} {pos : Pos} (ha : ST P cf n0 ca L X W a x) (hb : ST P cf n0 ca L X W b (.BoolOp .Or (y :: rest) pos)) : ST P cf n0 ca L X W (.or a b) (.BoolOp .Or (x :: y :: rest) pos) := fun F ρ S σ H G α Q C hE h => by
  simp only [evalT, evalE] at h
  refine ofT (pw_or (pT x) wP).pt (ha F ρ S σ H G α _ C hE ?_)
  unfold evalT
  cases e : evalE P cf n0 a ρ S with
  | ok r S1 =>
    rw [e] at h
    simp only [Out.bind_ok] at h ⊢
    split at h
    · intro H' G' α' l pr C'
      show wT X _ σ H' Q
      refine hb F ρ S1 σ H' G' α' Q C' (hE.mono l pr) ?_
      unfold evalT
      cases e2 : evalE P cf n0 b ρ S1 with
      | ok r2 S2 =>
        rw [e2] at h
        simp only [Out.bind_ok] at h ⊢
        split at h
        · exact fun H2 G2 α2 l2 p2 C2 => h H2 G2 α2 (l.trans l2) (pr.trans p2) C2
        · exact h
      | exn c v S2 =>
        rw [e2] at h
        have h' : XP X.K ca L F (fun c d H' => W c d σ H') G α c v S2 := h
        exact h'.mono l pr
      | bad => rw [e2] at h; exact h
    · intro H' G' α' l pr C'
      exact h H' G' α' l pr C'
    · exact False.elim h
  | exn c v S1 => rw [e] at h; exact h
  | bad => rw [e] at h; exact h
theorem se_ite {c a b : IE} {t x y : Expr} {pos : Pos} (hc : ST P cf n0 ca L X W c t) (ha : SE P cf n0 ca L X W a x) (hb : SE P cf n0 ca L X W b y) : SE P cf n0 ca L X W (.ite c a b) (.IfExp t x y pos) := fun F ρ S σ H G α Q C hE h => by
  simp only [evalE] at h
  refine ofE (pe_ifExp (pT t) (pE x) (pE y)) (hc F ρ S σ H G α _ C hE ?_)
  unfold evalT
  cases e : evalE P cf n0 c ρ S with
  | ok r S1 =>
    rw [e] at h
    simp only [Out.bind_ok] at h ⊢
    split at h
    · intro H' G' α' l pr C'
      show wE X x σ H' Q
      exact ha F ρ S1 σ H' G' α' Q C' (hE.mono l pr) (h.mono (fun r2 S2 z v H2 G2 α2 l2 p2 C2 rv => z v H2 G2 α2 (l.trans l2) (pr.trans p2) C2 rv) fun _ _ _ z => z.mono l pr)
    · intro H' G' α' l pr C'
      show wE X y σ H' Q
      exact hb F ρ S1 σ H' G' α' Q C' (hE.mono l pr) (h.mono (fun r2 S2 z v H2 G2 α2 l2 p2 C2 rv => z v H2 G2 α2 (l.trans l2) (pr.trans p2) C2 rv) fun _ _ _ z => z.mono l pr)
    · exact False.elim h
  | exn c v S1 => rw [e] at h; exact h
  | bad => rw [e] at h; exact h
/-! ### calls -/
theorem plain_stars : ∀ {xs : List Expr} {env : PySem.Env} {pos : Pos}, xs.all starless = true → (backTo pos (starEach xs env)).any (·.1) = false
  | [], _, _, _ => rfl
  | x :: xs, env, pos, h => by
    simp only [List.all_cons, Bool.and_eq_true] at h  -- so
    rw [star_cons h.1]
    show (false || _) = false
    rw [Bool.false_or]
    exact plain_stars h.2
theorem se_call {f : Nat} {es : List IE} {xs : List Expr} {x : Str} {p pos : Pos} {a : Addr} {fd : FuncData} {ps : List Str} (F : FnG X.prog X.w X.K X.mg X.base k a fd ps (spF X.K ca P w n f ps.length)) (hcf : cf = callF P w n) (hp : ∀ fn, P.fns f = some fn → ps.length = fn.params)
    (g : X.A.guards = some []) (hr : Room k X.A) (hb : Binds X.K fd ps []) (tk : Takes X W) (hg : Gl X x) (hm : X.mg x = some (.ref a)) (hk : PySem.W.keepIn X.K (.ref a) = true) (hd : (x == ("__debug__" : Str)) = false) (hs : xs.all starless = true) (hlen : es.length = xs.length)
    (h : SEs P cf n0 ca L X W es xs) : SE P cf n0 ca L X W (.call f es) (.Call (.Name x p) xs [] pos) := fun Fr ρ S σ H G α Q C hE o => by
  subst hcf
  simp only [evalE] at o
  have len : ∀ {ps' : List PV} {S1 : Store} {ok : RV → Store → Prop} {ex : Nat → PV → Store → Prop}, OutE (callF P w n f ps' S1) ok ex → ps'.length = ps.length := fun {ps' S1 ok ex} z => by
    cases n with
    | zero => exact z.elim
    | succ n =>
      simp only [callF] at z
      split at z
      · rename_i fn e
        split at z
        · rename_i hl
          rw [hl, hp fn e]
        · exact z.elim
      · exact z.elim
  have fin : ∀ {ps' : List PV} {S1 : Store} {vs : List V} {H1 G1 : Hp} {α1 : List Addr}, Le G G1 → Pre α α1 → Conc X.K ca L G1 Fr α1 S1 H1 → Rs X.K ca G1 α1 ps' vs →
      OutE (callF P w n f ps' S1) (fun r S' => ∀ v H' G' α', Le G G' → Pre α α' → Conc X.K ca L G' Fr α' S' H' → RVR X.K ca G' Fr α' H' r v → Q v H') (XP X.K ca L Fr (fun c d H' => W c d σ H') G α) → spF X.K ca P w n f ps.length vs H1 Q fun c d H' => W c d σ H' := fun {ps' S1 vs H1 G1 α1} l pr C1 r z =>
    ⟨L, G1, Fr, α1, S1, ps', C1, r, len z, z.mono (fun r S2 z v H' G' l2 C2 rv => z v H' G' α1 (l.trans l2) pr C2 rv) fun c v S2 z d y H' G' l2 C2 e rv => z d y H' G' α1 (l.trans l2) pr C2 e rv⟩
  cases xs with
  | nil =>
    cases es with
    | nil =>
      refine callG0 F g hr hb tk hg hm hk hd ?_
      exact fin (Le.refl _) (Pre.refl _) C .nil o
    | cons e es => cases hlen
  | cons y ys =>
    simp only [List.all_cons, Bool.and_eq_true] at hs  -- so
    exact callG F g hr hb tk hg hm hk hd (star_cons hs.1) (plain_stars hs.2) (h Fr ρ S σ H G α _ C hE (o.bind.mono (fun ps' S1 z vs H1 G1 α1 l pr C1 r => fin l pr C1 r z) fun _ _ _ z => z))
end
end Ip

/-! IpSnd6: targets, what is walked, comprehensions. -/
namespace Ip
open PySem PySem.Spec PyProof.Rows L2  -- so
/-! ### targets -/
theorem wipe_set {i : Nat} {x : Option V} : ∀ {own : List Nat} {σ : L2.St}, i ∈ own → L2.wipe (σ.set i x) own = L2.wipe σ own
  | [], _, h => by simp at h
  | j :: r, σ, h => by
    unfold L2.wipe
    by_cases e : i ∈ r
    · rw [wipe_set e]
    · have hij : i = j := by
        rcases List.mem_cons.mp h with z | z  -- so
        · exact z
        · exact absurd z e
      subst hij
      have key : ∀ (r : List Nat) (σ : L2.St), i ∉ r → L2.wipe (σ.set i x) r = (L2.wipe σ r).set i x := by
        intro r
        induction r with
        | nil => intro σ _; rfl
        | cons k r ih =>
          intro σ hn
          have h1 : i ≠ k := fun z => hn (by rw [z]; exact List.mem_cons_self)
          have h2 : i ∉ r := fun z => hn (List.mem_cons_of_mem _ z)
          unfold L2.wipe
          rw [ih σ h2, List.set_comm _ _ h1]
      rw [key r σ e, List.set_set]
theorem wipe_wipe {own : List Nat} : ∀ {r : List Nat} {σ : L2.St}, (∀ i ∈ r, i ∈ own) → L2.wipe (L2.wipe σ r) own = L2.wipe σ own
  | [], _, _ => rfl
  | j :: r, σ, h => by
    show L2.wipe ((L2.wipe σ r).set j none) own = _
    rw [wipe_set (h j List.mem_cons_self), wipe_wipe fun i hi => h i (List.mem_cons_of_mem _ hi)]
section
variable {X : Cx} {ca : Nat → Addr} {L : Nat → Prop} {N : List Str} {nm : Names}
/-- a target by values -/
def SG (X : Cx) (ca : Nat → Addr) (tg : Tgt) (x : Expr) : Prop := ∀ (σ : L2.St) (H G : Hp) (α : List Addr) (ρ ρ' : Rho) (p : PV) (v : V) (Q : L2.St → Hp → Prop), Le G H → EnvR X.K ca G α ρ σ → R X.K ca G α p v → Tgt.set tg p ρ = some ρ' →
  (∀ σ', EnvR X.K ca G α ρ' σ' → (∀ own : List Nat, (∀ i ∈ tg.ix, i ∈ own) → L2.wipe σ' own = L2.wipe σ own) → Q σ' H) → wG X x v σ H Q
def SGs (X : Cx) (ca : Nat → Addr) (tgs : List Tgt) (xs : List Expr) : Prop := ∃ t : TGs, PGs X xs t ∧ ∀ (σ : L2.St) (H G : Hp) (α : List Addr) (ρ ρ' : Rho) (ps : List PV) (vs : List V) (Q : L2.St → Hp → Prop), Le G H → EnvR X.K ca G α ρ σ → Rs X.K ca G α ps vs → Tgt.sets tgs ps ρ = some ρ' →
  (∀ σ', EnvR X.K ca G α ρ' σ' → (∀ own : List Nat, (∀ i ∈ Tgt.ixs tgs, i ∈ own) → L2.wipe σ' own = L2.wipe σ own) → Q σ' H) → t vs σ H Q
theorem assign_cons {e : Expr} {es : List Expr} {env : PySem.Env} (h : starless e = true) : (assignEach (e :: es) env).map (·.2) = assign e env :: (assignEach es env).map (·.2) := by
  cases e <;> first | rfl | cases h
theorem assign_len {env : PySem.Env} : ∀ es : List Expr, (assignEach es env).length = es.length
  | [] => rfl
  | e :: es => by cases e <;> exact congrArg (· + 1) (assign_len es)
theorem assign_star {env : PySem.Env} : ∀ {es : List Expr}, es.all starless = true → (assignEach es env).findIdx? (·.1) = none
  | [], _ => rfl
  | e :: es, h => by
    simp only [List.all_cons, Bool.and_eq_true] at h  -- so
    have ih := assign_star (env := env) h.2
    have e1 : assignEach (e :: es) env = (false, assign e env) :: assignEach es env := by
      have := h.1
      cases e <;> first | rfl | cases this
    rw [e1, List.findIdx?_cons, ih]
    rfl
mutual
theorem sg_ok (sc : ScOk X nm) (hN : X.N = N) (nd : X.N.Nodup) (hc : X.calm = true) : ∀ (tg : Tgt) (x : Expr), okT N nm tg x = true → SG X ca tg x
  | .name i, .Name x p, h => fun σ H G α ρ ρ' q v Q hG hE r e fin => by
    simp only [okT, Bool.and_eq_true, decide_eq_true_eq] at h
    obtain ⟨h1, h2⟩ := sc.sto x h.2
    cases e
    exact ofG (pg_name nd (by rw [hN]; exact h.1) h1 h2) (fin _ (hE.set r i) fun own ho => wipe_set (ho i (by simp [Tgt.ix])))
  | .tup ts, .Tuple es k p, h => fun σ H G α ρ ρ' q v Q hG hE r e fin => by
    simp only [okT] at h
    obtain ⟨t, pt, q1⟩ := sgs_ok sc hN nd hc ts es h
    cases r with
    | tup h1 rs =>
      simp only [Tgt.set] at e
      refine ofG (pg_tup (n := es.length) hc pt (assign_len es) (assign_star (sgs_star ts es h))) ⟨_, _, rfl, hG.sqT h1, ?_, ?_⟩
      · rw [← rs.length, sets_len ts _ ρ ρ' e, sgs_len ts es h]
      · exact q1 σ H G α ρ ρ' _ _ Q hG hE rs e fun σ' hE' hw => fin σ' hE' fun own ho => hw own (by simpa [Tgt.ix] using ho)
    | _ => simp [Tgt.set] at e
  | .name _, .BoolOp .., h | .name _, .NamedExpr .., h | .name _, .BinOp .., h | .name _, .UnaryOp .., h | .name _, .Lambda .., h | .name _, .IfExp .., h | .name _, .Dict .., h | .name _, .Set .., h | .name _, .ListComp .., h | .name _, .SetComp .., h
  | .name _, .DictComp .., h | .name _, .GeneratorExp .., h | .name _, .Await .., h | .name _, .Yield .., h | .name _, .YieldFrom .., h | .name _, .Compare .., h | .name _, .Call .., h | .name _, .FormattedValue .., h | .name _, .JoinedStr .., h
  | .name _, .Constant .., h | .name _, .Attribute .., h | .name _, .Subscript .., h | .name _, .Starred .., h | .name _, .List .., h | .name _, .Tuple .., h | .name _, .Slice .., h
  | .tup _, .BoolOp .., h | .tup _, .NamedExpr .., h | .tup _, .BinOp .., h | .tup _, .UnaryOp .., h | .tup _, .Lambda .., h | .tup _, .IfExp .., h | .tup _, .Dict .., h | .tup _, .Set .., h | .tup _, .ListComp .., h | .tup _, .SetComp .., h
  | .tup _, .DictComp .., h | .tup _, .GeneratorExp .., h | .tup _, .Await .., h | .tup _, .Yield .., h | .tup _, .YieldFrom .., h | .tup _, .Compare .., h | .tup _, .Call .., h | .tup _, .FormattedValue .., h | .tup _, .JoinedStr .., h
  | .tup _, .Constant .., h | .tup _, .Attribute .., h | .tup _, .Subscript .., h | .tup _, .Starred .., h | .tup _, .List .., h | .tup _, .Name .., h | .tup _, .Slice .., h => by simp [okT] at h
theorem sgs_ok (sc : ScOk X nm) (hN : X.N = N) (nd : X.N.Nodup) (hc : X.calm = true) : ∀ (tgs : List Tgt) (xs : List Expr), okTs N nm tgs xs = true → SGs X ca tgs xs
  | [], [], _ => ⟨gNil, pgs_nil, fun σ H G α ρ ρ' ps vs Q hG hE r e fin => by
    cases r with
    | nil =>
      cases e
      exact ⟨rfl, fin σ hE fun _ _ => rfl⟩
    | cons => simp [Tgt.sets] at e⟩
  | t :: ts, x :: xs, h => by
    simp only [okTs, Bool.and_eq_true] at h
    obtain ⟨u, pu, q1⟩ := sgs_ok sc hN nd hc ts xs h.2
    have q0 := sg_ok sc hN nd hc t x h.1.1
    refine ⟨gCons (wG X x) u, pgs_cons (pG x) pu (assign_cons h.1.2), fun σ H G α ρ ρ' ps vs Q hG hE r e fin => ?_⟩
    cases r with
    | nil => simp [Tgt.sets] at e
    | cons r0 rs =>
      rename_i p ps v vs
      simp only [Tgt.sets] at e
      split at e
      · rename_i ρ1 e1
        refine ⟨v, vs, rfl, q0 σ H G α ρ ρ1 p v _ hG hE r0 e1 fun σ1 hE1 hw1 => ?_⟩
        exact q1 σ1 H G α ρ1 ρ' ps vs Q hG hE1 rs e fun σ2 hE2 hw2 => fin σ2 hE2 fun own ho =>
          (hw2 own fun i hi => ho i (by simp only [Tgt.ixs, List.mem_append]; exact .inr hi)).trans (hw1 own fun i hi => ho i (by simp only [Tgt.ixs, List.mem_append]; exact .inl hi))
      · cases e
  | [], _ :: _, h | _ :: _, [], h => by simp [okTs] at h
theorem sgs_star : ∀ (tgs : List Tgt) (xs : List Expr), okTs N nm tgs xs = true → xs.all starless = true
  | [], [], _ => rfl
  | t :: ts, x :: xs, h => by
    simp only [okTs, Bool.and_eq_true] at h
    rw [List.all_cons, h.1.2, sgs_star ts xs h.2]
    rfl
  | [], _ :: _, h | _ :: _, [], h => by simp [okTs] at h
theorem sgs_len : ∀ (tgs : List Tgt) (xs : List Expr), okTs N nm tgs xs = true → tgs.length = xs.length
  | [], [], _ => rfl
  | t :: ts, x :: xs, h => by
    simp only [okTs, Bool.and_eq_true] at h
    exact congrArg (· + 1) (sgs_len ts xs h.2)
  | [], _ :: _, h | _ :: _, [], h => by simp [okTs] at h
theorem sets_len : ∀ (tgs : List Tgt) (ps : List PV) (ρ ρ' : Rho), Tgt.sets tgs ps ρ = some ρ' → ps.length = tgs.length
  | [], [], _, _, _ => rfl
  | t :: ts, p :: ps, ρ, ρ', e => by
    simp only [Tgt.sets] at e
    split at e
    · exact congrArg (· + 1) (sets_len ts ps _ ρ' e)
    · cases e
  | [], _ :: _, _, _, e | _ :: _, [], _, _, e => by simp [Tgt.sets] at e
end
end
/-! ### what is walked -/
section
variable (X : Cx)
def wIt (tg iter : Expr) : TI := fun σ H Rr => ∀ (pins : List (Addr × Obj)) (s : Shared), L2.Inv X pins σ H s → wpAny (model X.prog X.w) X.A (eval iter X.env) (fun v s1 => wpAny (model X.prog X.w) X.A (pyIter v) (PIE X pins σ tg Rr) X.xe s1) X.xe s
end
theorem pIt {X : Cx} (tg iter : Expr) : PI X tg iter (wIt X tg iter) := ⟨fun pins s _ _ _ I h => h pins s I⟩
theorem ofIt {X : Cx} {tg iter : Expr} {t : TI} {σ : L2.St} {H : Hp} {Rr : It → Hp → Prop} (h : PI X tg iter t) (q : t σ H Rr) : wIt X tg iter σ H Rr := fun pins s I => h.run pins s σ H Rr I q
/-- J walks the items of p -/
def Wk (K : PySem.W.Frag) (ca : Nat → Addr) (L : Nat → Prop) (J : It) (p : PV) (xs : List PV) (G : Hp) (α : List Addr) : Prop := ∀ (G2 F2 H2 : Hp) (α2 : List Addr) (S2 : Store), Le G G2 → Pre α α2 → Conc K ca L G2 F2 α2 S2 H2 → sameSeq S2 p xs = true →
  (∀ (i : Nat) (q : PV), xs[i]? = some q → J.go i H2 ∧ ∀ x H3, J.yld i H2 x H3 → ∃ G3, Le G2 G3 ∧ Conc K ca L G3 F2 α2 S2 H3 ∧ R K ca G3 α2 q x) ∧ J.stop xs.length H2
theorem sameSeq_eq {S : Store} {p : PV} {xs : List PV} (h : sameSeq S p xs = true) : seqOf S p = some xs := by
  unfold sameSeq at h
  split at h
  · rename_i ys e
    rw [e, PV.sames_eq _ _ h]
  · cases h
section
variable {P : Pg} {cf : Nat → List PV → Store → Out RV} {n0 : Nat} {ca : Nat → Addr} {L : Nat → Prop} {X : Cx} {W : WX} {T : Tab} {N : List Str} {w n k : Nat} {G F H : Hp} {α : List Addr} {S : Store}
theorem wk_tup {K : PySem.W.Frag} {a : Addr} {vs : List V} {ps : List PV} (h : SqT K G a vs) (r : Rs K ca G α ps vs) : Wk K ca L (Itt K a) (.tup ps) ps G α := fun G2 F2 H2 α2 S2 l pr C hs => by
  have h2 := C.gh.sqT (l.sqT h)
  refine ⟨fun i q e => ?_, ⟨vs, h2, by rw [r.length]; exact Nat.le_refl _⟩⟩
  obtain ⟨v, e2, rv⟩ := r.get' e
  refine ⟨⟨vs, v, h2, e2⟩, fun x H3 y => ?_⟩
  obtain ⟨rfl, y⟩ := y
  have := y vs h2
  rw [e2] at this
  cases this
  exact ⟨G2, Le.refl _, C, rv.mono l pr⟩
theorem wk_lst {K : PySem.W.Frag} {a : Addr} {vs : List V} {ps : List PV} {p : PV} (hp : p = .lst ps ∨ p = .slst ps) (h : SqL K G a vs) (r : Rs K ca G α ps vs) : Wk K ca L (Itl K a) p ps G α := fun G2 F2 H2 α2 S2 l pr C hs => by
  have h2 := C.gh.sqL (l.sqL h)
  refine ⟨fun i q e => ?_, ⟨vs, h2, by rw [r.length]; exact Nat.le_refl _⟩⟩
  obtain ⟨v, e2, rv⟩ := r.get' e
  refine ⟨⟨vs, v, h2, e2⟩, fun x H3 y => ?_⟩
  obtain ⟨rfl, y⟩ := y
  have := y vs h2
  rw [e2] at this
  cases this
  exact ⟨G2, Le.refl _, C, rv.mono l pr⟩
theorem wk_loc {K : PySem.W.Frag} {a : Addr} {j : Nat} {ps : List PV} (hk : α[j]? = some a) : Wk K ca L (Itl K a) (.loc j) ps G α := fun G2 F2 H2 α2 S2 l pr C hs => by
  have e1 := sameSeq_eq hs
  have e0 : S2[j]? = some (.lst ps) := by
    simp only [seqOf] at e1
    split at e1
    · cases e1
      assumption
    · cases e1
  obtain ⟨vs, h3, r⟩ := C.cell j _ a e0 (pr _ _ hk)
  have h2 : SqL K H2 a vs := .inl (.inl h3)
  refine ⟨fun i q e => ?_, ⟨vs, h2, by rw [r.length]; exact Nat.le_refl _⟩⟩
  obtain ⟨v, e2, rv⟩ := r.get' e
  refine ⟨⟨vs, v, h2, e2⟩, fun x H3 y => ?_⟩
  obtain ⟨rfl, y⟩ := y
  have := y vs h2
  rw [e2] at this
  cases this
  exact ⟨G2, Le.refl _, C, rv⟩
theorem wk_rng {K : PySem.W.Frag} {lo : Int} {m : Nat} {p : PV} : Wk K ca L (Itr lo m) p (rngs lo m) G α := fun G2 F2 H2 α2 S2 l pr C hs => by
  have hl : (rngs lo m).length = m := by simp [rngs]
  refine ⟨fun i q e => ?_, by rw [hl]; exact Nat.le_refl _⟩
  have hi : i < m := by
    have := (List.getElem?_eq_some_iff.mp e).1
    rwa [hl] at this
  refine ⟨hi, fun x H3 y => ?_⟩
  obtain ⟨rfl, rfl⟩ := y
  have eq : q = .int (lo + i) := by
    simp only [rngs, List.getElem?_map, List.getElem?_range hi, Option.map_some, Option.some.injEq] at e
    exact e.symm
  subst eq
  exact ⟨G2, Le.refl _, C, .int _⟩
variable (P cf n0 ca L X W) in
/-- an expression that is walked -/
def SI (e : IE) (tg x : Expr) : Prop := ∀ (F : Hp) (ρ : Rho) (S : Store) (σ : L2.St) (H G : Hp) (α : List Addr) (Rr : It → Hp → Prop), Conc X.K ca L G F α S H → EnvR X.K ca G α ρ σ →
  OutE (evalE P cf n0 e ρ S) (fun r S' => ∃ xs, seqOf S' r.fz = some xs ∧ ∀ J H' G' α', Le G G' → Pre α α' → Conc X.K ca L G' F α' S' H' → Wk X.K ca L J r.fz xs G' α' → xs.length ≤ big → Rr J H') (XP X.K ca L F (fun c d H' => W c d σ H') G α) → wIt X tg x σ H Rr
end
end Ip

/-! IpSnd7: iterables, comprehensions. -/
namespace Ip
open PySem PySem.Spec PyProof.Rows L2  -- so
section
variable {P : Pg} {cf : Nat → List PV → Store → Out RV} {n0 : Nat} {ca : Nat → Addr} {L : Nat → Prop} {X : Cx} {W : WX} {T : Tab} {N : List Str} {w n k : Nat} {σ : L2.St} {H : Hp}
theorem wE.inv {e : Expr} {Q : VK} (h : wE X e σ H fun v H' => (∃ pins s, L2.Inv X pins σ H' s) → Q v H') : wE X e σ H Q := fun pins s I =>
  thn (h pins s I) fun _ s' ⟨v, H', I', r, z⟩ => ⟨v, H', I', r, z ⟨pins, s', I'⟩⟩
theorem sqL_len {H' : Hp} {a : Addr} {vs : List V} (h : ∃ pins s, L2.Inv X pins σ H' s) (q : SqL X.K H' a vs) : vs.length ≤ big := by
  obtain ⟨pins, s, I⟩ := h
  obtain ⟨_, _, _, z⟩ := I.list q
  rw [sizeLine_eq] at z
  exact z
theorem sqT_len {H' : Hp} {a : Addr} {vs : List V} (h : ∃ pins s, L2.Inv X pins σ H' s) (q : SqT X.K H' a vs) : vs.length ≤ big := by
  obtain ⟨pins, s, I⟩ := h
  obtain ⟨_, _, _, z⟩ := I.tuple q
  rw [sizeLine_eq] at z
  exact z
theorem si_seq {e : IE} {tg x : Expr} (h : SE P cf n0 ca L X W e x) : SI P cf n0 ca L X W e tg x := fun F ρ S σ H G α Rr C hE o => by
  cases ev : evalE P cf n0 e ρ S with
  | ok r S1 =>
    rw [ev] at o
    obtain ⟨xs, sq, fin⟩ := o
    have go : ∀ Q : VK, (∀ v H' G' α', Le G G' → Pre α α' → Conc X.K ca L G' F α' S1 H' → R X.K ca G' α' r.fz v → (∃ pins s, L2.Inv X pins σ H' s) → Q v H') → wE X x σ H Q := fun Q q =>
      wE.inv (h.p F ρ S σ H G α _ C hE (by rw [ev]; exact fun v H' G' α' l pr C' rv i => q v H' G' α' l pr C' rv i))
    cases hp : r.fz with
    | tup ps =>
      rw [hp] at sq go fin
      cases sq
      refine ofIt (pi_tup (pE x)) (go _ fun v H' G' α' l pr C' rv i => ?_)
      obtain ⟨a, vs, rfl, h1, t⟩ := rv.tup_inv
      have h2 := C'.gh.sqT h1
      exact ⟨a, rfl, ⟨vs, h2⟩, fin _ H' G' α' l pr C' (wk_tup h1 t) (by rw [t.length]; exact sqT_len i h2)⟩
    | lst ps =>
      rw [hp] at sq go fin
      cases sq
      refine ofIt (pi_list (pE x)) (go _ fun v H' G' α' l pr C' rv i => ?_)
      cases rv with
      | lst h1 t =>
        have h0 : SqL X.K G' _ _ := .inl (.inl h1)
        have h2 := C'.gh.sqL h0
        exact ⟨_, rfl, ⟨_, h2⟩, fin _ H' G' α' l pr C' (wk_lst (.inl rfl) h0 t) (by rw [t.length]; exact sqL_len i h2)⟩
    | slst ps =>
      rw [hp] at sq go fin
      cases sq
      refine ofIt (pi_list (pE x)) (go _ fun v H' G' α' l pr C' rv i => ?_)
      cases rv with
      | slst h0 t =>
        have h2 := C'.gh.sqL h0
        exact ⟨_, rfl, ⟨_, h2⟩, fin _ H' G' α' l pr C' (wk_lst (.inr rfl) h0 t) (by rw [t.length]; exact sqL_len i h2)⟩
    | loc j =>
      rw [hp] at sq go fin
      refine ofIt (pi_list (pE x)) (go _ fun v H' G' α' l pr C' rv i => ?_)
      cases rv with
      | loc hk =>
        rename_i a
        simp only [seqOf] at sq
        split at sq
        · rename_i ys e1
          cases sq
          obtain ⟨vs, h3, t⟩ := C'.cell j _ a e1 hk
          have h2 : SqL X.K H' a vs := .inl (.inl h3)
          exact ⟨_, rfl, ⟨_, h2⟩, fin _ H' G' α' l pr C' (wk_loc hk) (by rw [t.length]; exact sqL_len i h2)⟩
        · cases sq
    | non => rw [hp] at sq; cases sq
    | bl => rw [hp] at sq; cases sq
    | int => rw [hp] at sq; cases sq
    | str => rw [hp] at sq; cases sq
    | exc => rw [hp] at sq; cases sq
    | dct => rw [hp] at sq; cases sq
  | exn c v S1 =>
    rw [ev] at o
    exact ofIt (pi_list (pE x)) (h F ρ S σ H G α _ C hE (by rw [ev]; exact o))
  | bad => rw [ev] at o; exact o.elim
theorem si_rng {es : List IE} {xs : List Expr} {tg : Expr} {p pos : Pos} (hg : Gl X "range") (hm : X.mg "range" = none) (hs : xs.all starless = true) (hlen : es.length = xs.length) (h2 : xs.length ≤ 2) (h : SEs P cf n0 ca L X W es xs) : SI P cf n0 ca L X W (.rng es) tg (.Call (.Name "range" p) xs [] pos) := fun F ρ S σ H G α Rr C hE o => by
  simp only [evalE] at o
  cases ev : evalEs P cf n0 es ρ S with
  | bad => rw [ev] at o; exact o.elim
  | exn c v S1 =>
    rw [ev] at o
    cases xs with
    | nil =>
      cases es with
      | nil => cases ev
      | cons => cases hlen
    | cons x xs =>
      cases xs with
      | nil =>
        simp only [List.all_cons, Bool.and_eq_true] at hs  -- so
        exact ofIt (pi_range1 hg hm (pA [x]) (star_cons hs.1)) (h F ρ S σ H G α _ C hE (by rw [ev]; exact o))
      | cons y xs =>
        cases xs with
        | nil =>
          simp only [List.all_cons, Bool.and_eq_true] at hs  -- so
          exact ofIt (pi_range2 hg hm (pA [x, y]) (by rw [star_cons hs.1, star_cons hs.2.1]; rfl) (star_cons hs.2.1)) (h F ρ S σ H G α _ C hE (by rw [ev]; exact o))
        | cons z xs =>
          exfalso
          simp only [List.length_cons] at h2
          omega
  | ok ps S1 =>
    rw [ev] at o
    have hl := evalEs_length ev
    simp only [Out.bind_ok] at o
    split at o
    · rename_i m
      have hx1 : xs.length = 1 := by rw [← hlen, ← hl]; rfl
      obtain ⟨x, rfl⟩ : ∃ x, xs = [x] := by
        cases xs with
        | nil => cases hx1
        | cons x r =>
          cases r with
          | nil => exact ⟨x, rfl⟩
          | cons => cases hx1
      simp only [List.all_cons, Bool.and_eq_true] at hs  -- so
      split at o
      · rename_i hb
        obtain ⟨ys, e1, fin⟩ := o
        cases e1
        refine ofIt (pi_range1 hg hm (pA [x]) (star_cons hs.1)) (h F ρ S σ H G α _ C hE (by
          rw [ev]
          intro vs H' G' α' l pr C' rs
          cases rs with
          | cons r0 rn =>
            cases rn
            obtain rfl := r0.int_inv
            have hb2 : m ≤ 16777216 := hb.2
            refine ⟨m, rfl, hb.1, Int.lt_of_le_of_lt hb2 (by decide), fin _ H' G' α' l pr C' wk_rng ?_⟩
            simp only [rngs, List.length_map, List.length_range]
            show m.toNat ≤ 16777216
            omega))
      · exact o.elim
    · rename_i a b
      have hx1 : xs.length = 2 := by rw [← hlen, ← hl]; rfl
      obtain ⟨x, y, rfl⟩ : ∃ x y, xs = [x, y] := by
        cases xs with
        | nil => cases hx1
        | cons x r =>
          cases r with
          | nil => cases hx1
          | cons y r =>
            cases r with
            | nil => exact ⟨x, y, rfl⟩
            | cons => cases hx1
      simp only [List.all_cons, Bool.and_eq_true] at hs  -- so
      split at o
      · rename_i hb
        obtain ⟨ys, e1, fin⟩ := o
        cases e1
        refine ofIt (pi_range2 hg hm (pA [x, y]) (by rw [star_cons hs.1, star_cons hs.2.1]; rfl) (star_cons hs.2.1)) (h F ρ S σ H G α _ C hE (by
          rw [ev]
          intro vs H' G' α' l pr C' rs
          cases rs with
          | cons r0 rn =>
            cases rn with
            | cons r1 rn =>
              cases rn
              obtain rfl := r0.int_inv
              obtain rfl := r1.int_inv
              have hb2 : b - a ≤ 16777216 := hb.2
              refine ⟨a, b, rfl, hb.1, fin _ H' G' α' l pr C' wk_rng ?_⟩
              simp only [rngs, List.length_map, List.length_range]
              show (b - a).toNat ≤ 16777216
              omega))
      · exact o.elim
    · exact o.elim
/-! ### a comprehension -/
variable (X) in
def uE (sc : Scope) (e : Expr) : TE := fun σ H Q => ∀ (s : Shared) (H0 : Hp) (C : Addr) (cl : List (Str × Addr)) (fp : List Addr), wE (X.blk s H0 sc (compEnvC sc cl C X.env) fp) e σ H Q
variable (X) in
def uG (sc : Scope) (e : Expr) : L2.TG := fun v σ H Q => ∀ (s : Shared) (H0 : Hp) (C : Addr) (cl : List (Str × Addr)) (fp : List Addr), wG (X.blk s H0 sc (compEnvC sc cl C X.env) fp) e v σ H Q
variable (X) in
def uT (sc : Scope) (e : Expr) : TT := fun σ H Q => ∀ (s : Shared) (H0 : Hp) (C : Addr) (cl : List (Str × Addr)) (fp : List Addr), wT (X.blk s H0 sc (compEnvC sc cl C X.env) fp) e σ H Q
variable (X) in
def tIfs (sc : Scope) : List Expr → TT
  | [c] => uT X sc c
  | _ => tYes
theorem Conc.hold {ca : Nat → Addr} {L : Nat → Prop} {K : PySem.W.Frag} {G F H : Hp} {α : List Addr} {S : Store} {a : Addr} {o : HO} (C : Conc K ca L G F α S H) (h : H a = some o) (hg : G a = none) (ha : a ∉ α) : Conc K ca L G (upd F a o) α S H := by
  refine ⟨C.gh, fun b x e => ?_, fun b x e => ?_, fun b x e => ?_, C.ag, C.nd, C.len, C.low, C.cell, C.old⟩
  · by_cases z : b = a
    · subst z
      rw [upd_same] at e
      cases e
      exact h
    · rw [upd_ne z] at e
      exact C.fh b x e
  · by_cases z : b = a
    · subst z
      exact hg
    · rw [upd_ne z] at e
      exact C.fg b x e
  · by_cases z : b = a
    · subst z
      exact ha
    · rw [upd_ne z] at e
      exact C.fa b x e
/-- what somebody else held is changed, or let go -/
theorem Conc.swap {ca : Nat → Addr} {L : Nat → Prop} {K : PySem.W.Frag} {G F F' H : Hp} {α : List Addr} {S : Store} {a : Addr} {o u : HO} (C : Conc K ca L G F' α S H) (hF : F' = upd F a o) (hf : F a = none) : Conc K ca L G (upd F a u) α S (upd H a u) := by
  subst hF
  have hg := C.fg a o upd_same
  have ha := C.fa a o upd_same
  have ne : ∀ b x, G b = some x → b ≠ a := fun b x e z => by
    subst z
    rw [hg] at e
    cases e
  have nα : ∀ b ∈ α, b ≠ a := fun b m z => ha (by rw [← z]; exact m)
  refine ⟨fun b x e => by rw [upd_ne (ne b x e)]; exact C.gh b x e, fun b x e => ?_, fun b x e => ?_, fun b x e => ?_, C.ag, C.nd, C.len, C.low, fun k c b h1 h2 => (C.cell k c b h1 h2).at (upd_ne (nα b (List.mem_of_getElem? h2))), fun m hm k c b hk h1 h2 => (C.old m hm k c b hk h1 h2).at (upd_ne (nα b (List.mem_of_getElem? h2)))⟩
  · by_cases z : b = a
    · subst z
      rw [upd_same] at e ⊢
      exact e
    · rw [upd_ne z] at e ⊢
      exact C.fh b x (by rw [upd_ne z]; exact e)
  · by_cases z : b = a
    · subst z
      exact hg
    · rw [upd_ne z] at e
      exact C.fg b x (by rw [upd_ne z]; exact e)
  · by_cases z : b = a
    · subst z
      exact ha
    · rw [upd_ne z] at e
      exact C.fa b x (by rw [upd_ne z]; exact e)
theorem Conc.drop {ca : Nat → Addr} {L : Nat → Prop} {K : PySem.W.Frag} {G F H : Hp} {α : List Addr} {S : Store} {a : Addr} {o : HO} (C : Conc K ca L G (upd F a o) α S H) (hf : F a = none) : Conc K ca L G F α S H := by
  have up : ∀ b x, F b = some x → upd F a o b = some x := fun b x e => by
    rw [upd_ne (ne_of_none e hf)]
    exact e
  exact ⟨C.gh, fun b x e => C.fh b x (up b x e), fun b x e => C.fg b x (up b x e), fun b x e => C.fa b x (up b x e), C.ag, C.nd, C.len, C.low, C.cell, C.old⟩
variable (P cf n0 ca L X W) in
/-- a comprehension's tests -/
def SC (sc : Scope) (c : Option IE) (xs : List Expr) : Prop := ∀ (F : Hp) (ρ : Rho) (S : Store) (σ : L2.St) (H G : Hp) (α : List Addr) (Q : Bool → Hp → Prop), Conc X.K ca L G F α S H → EnvR X.K ca G α ρ σ →
  OutE (evalC P cf n0 c ρ S) (fun b S' => ∀ H' G' α', Le G G' → Pre α α' → Conc X.K ca L G' F α' S' H' → Q b H') (fun _ _ _ => False) → tIfs X sc xs σ H Q
variable (P cf n0) in
/-- one turn of a comprehension -/
def compStep (own : List Nat) (tg : Tgt) (cond : Option IE) (elt : IE) (ρ : Rho) (p : PV) (xs : List PV) (x : PV) (S2 : Store) : Out (Option PV) :=
  if sameSeq S2 p xs then (match Tgt.set tg x (wipeE ρ own) with
    | some ρ' => (evalC P cf n0 cond ρ' S2).bind fun b S3 => if b then (evalE P cf n0 elt ρ' S3).bind fun r S4 => .ok (some r.fz) S4 else .ok none S3
    | none => .bad) else .bad
theorem evalE_comp {own : List Nat} {tg : Tgt} {it elt : IE} {cond : Option IE} {ρ : Rho} {S : Store} : evalE P cf n0 (.comp own tg it cond elt) ρ S = (evalE P cf n0 it ρ S).bind fun p S1 => match seqOf S1 p.fz with
    | some xs => match compGo (compStep P cf n0 own tg cond elt ρ p.fz xs) xs S1 with
      | .ok ys S2 => if sameSeq S2 p.fz xs then .ok (.f (.lst ys)) S2 else .bad
      | _ => .bad
    | none => .bad := by
  rw [evalE]
  rfl
theorem comp_ok {own : List Nat} {tg : Tgt} {it elt : IE} {cond : Option IE} {ex t i : Expr} {ifs : List Expr} {sc : Scope} (hI : SI P cf n0 ca L X W it t i) (hG : ∀ (s : Shared) (H0 : Hp) (C : Addr) (cl : List (Str × Addr)) (fp : List Addr), SG (X.blk s H0 sc (compEnvC sc cl C X.env) fp) ca tg t)
    (hC : SC P cf n0 ca L X sc cond ifs) (hE : ∀ (s : Shared) (H0 : Hp) (C : Addr) (cl : List (Str × Addr)) (fp : List Addr), SE P cf n0 ca L (X.blk s H0 sc (compEnvC sc cl C X.env) fp) (fun _ _ _ _ => False) elt ex) (hix : ∀ i ∈ tg.ix, i ∈ own)
    {F : Hp} {ρ : Rho} {S : Store} {H G : Hp} {α : List Addr} {Q : VK} (C : Conc X.K ca L G F α S H) (hR : EnvR X.K ca G α ρ σ)
    (o : OutE (evalE P cf n0 (.comp own tg it cond elt) ρ S) (fun r S' => ∀ v H' G' α', Le G G' → Pre α α' → Conc X.K ca L G' F α' S' H' → RVR X.K ca G' F α' H' r v → Q v H') (XP X.K ca L F (fun c d H' => W c d σ H') G α)) :
    tLc (wIt X t i) (uG X sc t) (tIfs X sc ifs) (uE X sc ex) own σ H Q := by
  rw [evalE_comp] at o
  refine hI F ρ S σ H G α _ C hR (o.bind.mono (fun p S1 o1 => ?_) fun _ _ _ z => z)
  split at o1
  · rename_i xs sq
    split at o1
    · rename_i ys Sf eg
      split at o1
      · rename_i hsf
        refine ⟨xs, sq, fun J H1 G1 α1 l1 p1 C1 wk hlen D hD => ?_⟩
        have fD : F D = none := C1.fn hD
        refine ⟨fun j m Hh => m = xs.length - j ∧ j ≤ xs.length ∧ ∃ (G2 : Hp) (α2 : List Addr) (S2 : Store) (dn rest : List PV) (acc : List V), Le G1 G2 ∧ Pre α1 α2 ∧ Conc X.K ca L G2 (upd F D (.lst acc)) α2 S2 Hh ∧ Rs X.K ca G2 α2 dn acc ∧ dn.length ≤ j ∧
          compGo (compStep P cf n0 own tg cond elt ρ p.fz xs) (xs.drop j) S2 = .ok rest Sf ∧ dn ++ rest = ys, ⟨xs.length, ?_⟩, fun j m Hh hW => ?_⟩
        · refine ⟨by omega, Nat.zero_le _, G1, α1, S1, [], ys, [], Le.refl _, Pre.refl _, (C1.new (o := .lst []) hD).hold upd_same (C1.gn hD) (C1.an hD), .nil, Nat.le_refl _, eg, rfl⟩
        · obtain ⟨rfl, hj, G2, α2, S2, dn, rest, acc, l2, p2, C2, rd, hdn, ec, ey⟩ := hW
          by_cases hlt : j < xs.length
          · right
            rw [List.drop_eq_getElem_cons hlt] at ec
            simp only [compGo] at ec
            split at ec
            · rename_i y S3 es
              split at ec
              · rename_i ys2 S4 ec2
                unfold compStep at es
                split at es
                · rename_i hsame
                  split at es
                  · rename_i ρ' et
                    obtain ⟨w1, w2⟩ := wk G2 (upd F D (.lst acc)) Hh α2 S2 l2 p2 C2 hsame
                    obtain ⟨g1, g2⟩ := w1 j xs[j] (List.getElem?_eq_getElem hlt)
                    refine ⟨g1, fun H' => ∃ (G2 : Hp) (α2 : List Addr) (S2 : Store) (dn rest : List PV) (acc : List V), Le G1 G2 ∧ Pre α1 α2 ∧ Conc X.K ca L G2 (upd F D (.lst acc)) α2 S2 H' ∧ Rs X.K ca G2 α2 dn acc ∧ dn.length ≤ j + 1 ∧
                      compGo (compStep P cf n0 own tg cond elt ρ p.fz xs) (xs.drop (j + 1)) S2 = .ok rest Sf ∧ dn ++ rest = ys, fun H' hN => ⟨xs.length - (j + 1), by omega, rfl, hlt, hN⟩, fun x H' yl => ?_⟩
                    obtain ⟨G3, l3, C3, r3⟩ := g2 x H' yl
                    intro sb Hb Cb clb fpb
                    refine hG sb Hb Cb clb fpb (L2.wipe σ own) H' G3 α2 (wipeE ρ own) ρ' xs[j] x _ C3.gh (((hR.mono (l1.trans (l2.trans l3)) (p1.trans p2))).wipe own) r3 et fun σ' hR' hw => ⟨(hw own hix).trans (wipe_wipe fun i h => h), ?_⟩
                    cases ev : evalC P cf n0 cond ρ' S2 with
                    | bad => rw [ev] at es; cases es
                    | exn c v S5 => rw [ev] at es; cases es
                    | ok b S5 =>
                      rw [ev] at es
                      refine hC (upd F D (.lst acc)) ρ' S2 σ' H' G3 α2 _ C3 hR' (by
                        rw [ev]
                        intro H5 G5 α5 l5 p5 C5
                        simp only [Out.bind_ok] at es
                        cases b with
                        | false =>
                          simp only [Bool.false_eq_true, if_false] at es ⊢
                          cases es
                          simp only at ec
                          cases ec
                          exact ⟨G5, α5, S3, dn, rest, acc, l2.trans (l3.trans l5), p2.trans p5, C5, rd.mono (l3.trans l5) p5, Nat.le_succ_of_le hdn, ec2, ey⟩
                        | true =>
                          simp only [if_true] at es ⊢
                          intro sb Hb Cb clb fpb
                          refine (hE sb Hb Cb clb fpb).p (upd F D (.lst acc)) ρ' S5 σ' H5 G5 α5 _ C5 (hR'.mono l5 p5) ?_
                          cases ev2 : evalE P cf n0 elt ρ' S5 with
                          | bad => rw [ev2] at es; cases es
                          | exn c v S6 => rw [ev2] at es; cases es
                          | ok r S6 =>
                            rw [ev2] at es
                            cases es
                            cases ec
                            intro v H6 G6 α6 l6 p6 C6 r6
                            refine ⟨acc, C6.fh D _ upd_same, ?_, ?_⟩
                            · rw [← rd.length, sizeLine_eq]
                              exact Nat.lt_of_le_of_lt hdn (Nat.lt_of_lt_of_le hlt hlen)
                            · exact ⟨G6, α6, S3, dn ++ [r.fz], ys2, acc ++ [v], l2.trans (l3.trans (l5.trans l6)), p2.trans (p5.trans p6), C6.swap rfl fD, (rd.mono (l3.trans (l5.trans l6)) (p5.trans p6)).append (.cons r6 .nil),
                                by rw [List.length_append]; exact Nat.succ_le_succ hdn, ec2, by rw [List.append_assoc]; exact ey⟩)
                  · cases es
                · cases es
              · cases ec
            · cases ec
          · left
            have ej : j = xs.length := by omega
            subst ej
            rw [List.drop_length] at ec
            cases ec
            rw [List.append_nil] at ey
            subst ey
            obtain ⟨w1, w2⟩ := wk G2 (upd F D (.lst acc)) Hh α2 Sf l2 p2 C2 hsf
            exact ⟨w2, o1 (.ref D) Hh G2 α2 (l1.trans l2) (p1.trans p2) (C2.drop fD) ⟨D, rfl, ⟨acc, C2.fh D _ upd_same, rd⟩, C2.fa D _ upd_same, C2.fg D _ upd_same, fD⟩⟩
      · exact o1.elim
    · exact o1.elim
  · exact o1.elim
end
end Ip

/-! IpSnd8: built-ins, methods, slices, dicts displayed: as expressions. -/
namespace Ip
open PySem PySem.Spec PyProof.Rows L2  -- so
theorem nm_ne {x : Str} {s : String} (h : x = Str.ofString s) (h2 : (Str.ofString s == ("__debug__" : Str)) = false) : (x == ("__debug__" : Str)) = false := by rw [h]; exact h2
section
variable {P : Pg} {cf : Nat → List PV → Store → Out RV} {n0 : Nat} {ca : Nat → Addr} {L : Nat → Prop} {X : Cx} {W : WX} {T : Tab} {N : List Str} {w n k : Nat}
theorem se_bi {b : Bi} {es : List IE} {xs : List Expr} {x : Str} {p pos : Pos} (hx : x = Str.ofString (biName b)) (hc : X.calm = true) (gd : X.A.guards = some []) (hr : Room k X.A) (hg : Gl X x) (hm : ∀ b ∈ bltNames, X.mg b = none) (hs : xs.all starless = true) (hlen : es.length = xs.length)
    (h : SEs P cf n0 ca L X W es xs) : SE P cf n0 ca L X W (.bi b es) (.Call (.Name x p) xs [] pos) := fun F ρ S σ H G α Q C hE o => by
  simp only [evalE] at o
  cases xs with
  | nil =>
    cases es with
    | nil =>
      exfalso
      have z : evalEs P cf n0 [] ρ S = .ok [] S := rfl
      rw [z] at o
      cases b <;> exact o
    | cons => cases hlen
  | cons y ys =>
    simp only [List.all_cons, Bool.and_eq_true] at hs  -- so
    have red : ∀ {f : Value}, (∀ (ps : List PV) (vs : List V) (S1 : Store) (r : RV) (H' G' : Hp) (α' : List Addr), Le G G' → Pre α α' → Conc X.K ca L G' F α' S1 H' → Rs X.K ca G' α' ps vs → evBi S1 b ps = some r → ToV X ca L F G' α' S1 Q r → wC X f vs H' Q) →
        wA X (y :: ys) σ H fun vs H1 => wC X f vs H1 Q := fun {f} g =>
      h F ρ S σ H G α _ C hE (o.bind.mono (fun ps S1 z vs H' G' α' l pr C' rs => by
        split at z
        · rename_i r e
          exact g ps vs S1 r H' G' α' l pr C' rs e fun v2 H2 G2 α2 l2 p2 C2 r2 => z v2 H2 G2 α2 (l.trans l2) (pr.trans p2) C2 r2
        · exact z.elim) fun _ _ _ z => z)
    subst hx
    cases b
    · exact ofE (pe_callB (cR (.builtin "len")) hg (hm _ (by decide)) boot_len (pA _) (by decide) (by decide) (star_cons hs.1) (plain_stars hs.2)) (red fun ps vs S1 r H' G' α' l pr C' rs e t => (evBi_ok hc gd hr C' rs e t).1 _ (.inl ⟨rfl, rfl⟩))
    · exact ofE (pe_callB (cR (.builtin "sum")) hg (hm _ (by decide)) (by decide +kernel) (pA _) (by decide) (by decide) (star_cons hs.1) (plain_stars hs.2)) (red fun ps vs S1 r H' G' α' l pr C' rs e t => (evBi_ok hc gd hr C' rs e t).1 _ (by simp))
    · exact ofE (pe_callB (cR (.builtin "all")) hg (hm _ (by decide)) (by decide +kernel) (pA _) (by decide) (by decide) (star_cons hs.1) (plain_stars hs.2)) (red fun ps vs S1 r H' G' α' l pr C' rs e t => (evBi_ok hc gd hr C' rs e t).1 _ (by simp))
    · exact ofE (pe_callB (cR (.builtin "any")) hg (hm _ (by decide)) (by decide +kernel) (pA _) (by decide) (by decide) (star_cons hs.1) (plain_stars hs.2)) (red fun ps vs S1 r H' G' α' l pr C' rs e t => (evBi_ok hc gd hr C' rs e t).1 _ (by simp))
    · exact ofE (pe_callTy (cR (.type "tuple")) hg (hm _ (by decide)) (by decide +kernel) (pA _) (by decide) (by decide) (star_cons hs.1) (plain_stars hs.2)) (red fun ps vs S1 r H' G' α' l pr C' rs e t => (evBi_ok hc gd hr C' rs e t).2 _ (by simp))
    · exact ofE (pe_callTy (cR (.type "list")) hg (hm _ (by decide)) (by decide +kernel) (pA _) (by decide) (by decide) (star_cons hs.1) (plain_stars hs.2)) (red fun ps vs S1 r H' G' α' l pr C' rs e t => (evBi_ok hc gd hr C' rs e t).2 _ (by simp))
    · exact ofE (pe_callTy (cR (.type "int")) hg (hm _ (by decide)) (by decide +kernel) (pA _) (by decide) (by decide) (star_cons hs.1) (plain_stars hs.2)) (red fun ps vs S1 r H' G' α' l pr C' rs e t => (evBi_ok hc gd hr C' rs e t).2 _ (by simp))
    · exact ofE (pe_callB (cR (.builtin "abs")) hg (hm _ (by decide)) (by decide +kernel) (pA _) (by decide) (by decide) (star_cons hs.1) (plain_stars hs.2)) (red fun ps vs S1 r H' G' α' l pr C' rs e t => (evBi_ok hc gd hr C' rs e t).1 _ (by simp))
    · exact ofE (pe_callB (cR (.builtin "max")) hg (hm _ (by decide)) (by decide +kernel) (pA _) (by decide) (by decide) (star_cons hs.1) (plain_stars hs.2)) (red fun ps vs S1 r H' G' α' l pr C' rs e t => (evBi_ok hc gd hr C' rs e t).1 _ (by simp))
    · exact ofE (pe_callB (cR (.builtin "min")) hg (hm _ (by decide)) (by decide +kernel) (pA _) (by decide) (by decide) (star_cons hs.1) (plain_stars hs.2)) (red fun ps vs S1 r H' G' α' l pr C' rs e t => (evBi_ok hc gd hr C' rs e t).1 _ (by simp))
    · exact ofE (pe_callB (cR (.builtin "repr")) hg (hm _ (by decide)) (by decide +kernel) (pA _) (by decide) (by decide) (star_cons hs.1) (plain_stars hs.2)) (red fun ps vs S1 r H' G' α' l pr C' rs e t => (evBi_ok hc gd hr C' rs e t).1 _ (by simp))
theorem base_ok {x : Expr} {a : Str} {env : PySem.Env} (h : plainBase x = true) (whole : Sem Value) : attributeBase x a env whole = whole := by
  cases x <;> first | rfl | cases h
theorem few_ok : ∀ {xs : List Expr} {env : PySem.Env} {cp : Pos}, xs.all starless = true → (backTo cp (starEach xs env)).all (fun x => !x.1) = true
  | [], _, _, _ => rfl
  | x :: xs, env, cp, h => by
    simp only [List.all_cons, Bool.and_eq_true] at h  -- so
    rw [star_cons h.1]
    show (true && _) = true
    rw [Bool.true_and]
    exact few_ok h.2
/-- a method of a list that changes it -/
theorem se_meth {m : Me} {o : IE} {es : List IE} {x : Expr} {xs : List Expr} {ap cp : Pos} (hL : ∀ m, L m → m ≤ n0) (hb : plainBase x = true) (hline : (ap.endLine == cp.line) = true) (hs : xs.all starless = true) (hlen : es.length = xs.length) (hn : xs ≠ []) (hl : xs.length < 20)
    (ho : SE P cf n0 ca L X W o x) (h : SEs P cf n0 ca L X W es xs) : SE P cf n0 ca L X W (.meth m o es) (.Call (.Attribute x (Str.ofString (meName m)) ap) xs [] cp) := fun F ρ S σ H G α Q C hE q => by
  simp only [evalE] at q
  cases xs with
  | nil => exact absurd rfl hn
  | cons y ys =>
    simp only [List.all_cons, Bool.and_eq_true] at hs  -- so
    have few : ((backTo cp (starEach (y :: ys) X.env)).all (fun x => !x.1) && (backToKw cp (keywordEach [] X.env)).all (fun x => x.1.isSome)
      && decide ((y :: ys).length + ([] : List Keyword).length + (if ([] : List Keyword).isEmpty then 0 else 1) < 30)) = true := by
      rw [few_ok (by rw [List.all_cons, hs.1, hs.2]; rfl)]
      show (true && true && decide _) = true
      rw [Bool.and_self, Bool.true_and, decide_eq_true_eq]
      show (y :: ys).length + 0 + 0 < 30
      omega
    have main : tBM X.K "list" (wM X (meId m)) (wE X x) (wA X (y :: ys)) σ H Q := by
      refine ho.p F ρ S σ H G α _ C hE (q.bind.mono (fun r S1 q0 v H1 G1 α1 l1 p1 C1 rv => ?_) fun _ _ _ z => z)
      split at q0
      case isFalse => exact q0.elim
      rename_i hloc
      have q1 := q0
      have key : ∀ Qa : List V → Hp → Prop, (∀ (ps : List PV) (S2 : Store) (rr : PV) (S3 : Store) (vs : List V) (H2 G2 : Hp) (α2 : List Addr), Le G1 G2 → Pre α1 α2 → Conc X.K ca L G2 F α2 S2 H2 → Rs X.K ca G2 α2 ps vs → evMe n0 S2 m r.fz ps = some (rr, S3) → ToM X ca L F G2 α2 S3 Q rr → Qa vs H2) → wA X (y :: ys) σ H1 Qa := fun Qa g =>
        h F ρ S1 σ H1 G1 α1 _ C1 (hE.mono l1 p1) (q1.bind.mono (fun ps S2 z vs H2 G2 α2 l2 p2 C2 rs => by
          split at z
          · rename_i rr S3 e
            exact g ps S2 rr S3 vs H2 G2 α2 l2 p2 C2 rs e fun v4 H4 G4 α4 l4 p4 C4 r4 => z v4 H4 G4 α4 (l1.trans (l2.trans l4)) (p1.trans (p2.trans p4)) C4 r4
          · exact z.elim) fun _ _ _ z => z.mono l1 p1)
      refine ⟨?_, key _ fun ps S2 rr S3 vs H2 G2 α2 l2 p2 C2 rs e t => (evMe_ok hL C2 (rv.mono l2 p2) rs e t).2⟩
      cases hr : r.fz with
      | loc j =>
        rw [hr] at rv
        cases rv with
        | loc hk =>
          rename_i a
          have hj : j < S1.length := by
            rw [← C1.len]
            exact (List.getElem?_eq_some_iff.mp hk).1
          have hc := C1.cell j S1[j] a (List.getElem?_eq_getElem hj) hk
          cases hcc : S1[j] with
          | lst ps =>
            rw [hcc] at hc
            obtain ⟨vs, e, _⟩ := hc
            exact .inl ⟨rfl, vs, .inl (.inl e)⟩
      | _ => rw [hr] at hloc; cases hloc
    cases m
    · exact ofE (pe_bm PySem.F.plainAttrs_list PySem.F.slot_list_append PySem.F.type_list_append (mR X _) (pE x) (pA (y :: ys)) (base_ok hb _) few hline (star_cons hs.1) (plain_stars hs.2)) main
    · exact ofE (pe_bm PySem.F.plainAttrs_list PySem.F.slot_list_extend PySem.F.type_list_extend (mR X _) (pE x) (pA (y :: ys)) (base_ok hb _) few hline (star_cons hs.1) (plain_stars hs.2)) main
    · exact ofE (pe_bm PySem.F.plainAttrs_list PySem.F.slot_list_pop PySem.F.type_list_pop (mR X _) (pE x) (pA (y :: ys)) (base_ok hb _) few hline (star_cons hs.1) (plain_stars hs.2)) main
end
end Ip

/-! IpSnd9: slices, dicts displayed; statements. -/
namespace Ip
open PySem PySem.Spec PyProof.Rows L2  -- so
def wSl (X : Cx) : V → Option Int → Option Int → Hp → VK → Prop := fun x lo hi H Q => ∀ (pins : List (Addr × Obj)) (s : Shared) (σ : L2.St) (v vl vu : Value) (sl : Addr), L2.Inv X pins σ H s → RelV x v → s.heap.IsSliceOf sl vl vu .none → IsPart vl lo → IsPart vu hi →
  ∃ T id, typeLookup (.type T) "__getitem__" = pure (some (.builtin id)) ∧ s.TypeIs v T ∧ wpAny (model X.prog X.w) X.A (getItem v (.ref sl)) (EP X pins σ Q) X.xe s  -- so
theorem sR (X : Cx) : SlR X (wSl X) := fun pins s σ H x v vl vu lo hi sl Q I r hs p1 p2 h => h pins s σ v vl vu sl I r hs p1 p2
section
variable {P : Pg} {cf : Nat → List PV → Store → Out RV} {n0 : Nat} {ca : Nat → Addr} {L : Nat → Prop} {X : Cx} {W : WX} {T : Tab} {N : List Str} {w n k : Nat} {nm : Names}
theorem ofSl {r : V → Option Int → Option Int → Hp → VK → Prop} {x : V} {lo hi : Option Int} {H : Hp} {Q : VK} (h : SlR X r) (q : r x lo hi H Q) : wSl X x lo hi H Q := fun pins s σ v vl vu sl I rx hs p1 p2 => h pins s σ H x v vl vu lo hi sl Q I rx hs p1 p2 q
variable (P cf n0 ca L X W) in
def SO' (lo : Option IE) (l : Option Expr) (t : TO) : Prop := ∀ (F : Hp) (ρ : Rho) (S : Store) (σ : L2.St) (H G : Hp) (α : List Addr) (Q : Option Int → Hp → Prop), Conc X.K ca L G F α S H → EnvR X.K ca G α ρ σ →
  OutE (evalO P cf n0 lo ρ S) (fun o S' => ∀ H' G' α', Le G G' → Pre α α' → Conc X.K ca L G' F α' S' H' → Q o H') (XP X.K ca L F (fun c d H' => W c d σ H') G α) → t σ H Q
theorem so_none : SO' P cf n0 ca L X W none none tNoPart := fun F ρ S σ H G α Q C hE o => o H G α (Le.refl _) (Pre.refl _) C
theorem so_some {e : IE} {x : Expr} (h : SE P cf n0 ca L X W e x) : SO' P cf n0 ca L X W (some e) (some x) (tPart (wE X x)) := fun F ρ S σ H G α Q C hE o => by
  simp only [evalO] at o
  refine h F ρ S σ H G α _ C hE (o.bind.mono (fun r S1 h1 v H' G' α' l pr C' rv => ?_) fun _ _ _ z => z)
  split at h1
  · obtain rfl := R.int_inv rv
    exact ⟨_, rfl, h1 H' G' α' l pr C'⟩
  · exact h1.elim
theorem evSl_ok {F G H : Hp} {α : List Addr} {S : Store} {Q : VK} {p : PV} {x : V} {r : RV} {lo hi : Option Int} (C : Conc X.K ca L G F α S H) (rp : R X.K ca G α p x) (h : evSl S p lo hi = some r) (t : ToV X ca L F G α S Q r) : wSl X x lo hi H Q := by
  unfold evSl at h
  split at h
  · cases h
    obtain ⟨a, vs, rfl, hs, ts⟩ := rp.tup_inv
    rename_i xs
    refine ofSl sl_tupA ⟨a, vs, rfl, C.gh.sqT hs, fun e => ?_, fun _ c hc => t.newT C hc (ts.cut lo hi)⟩
    have e1 : (xs.drop (cut xs.length 0 lo)).take (cut xs.length xs.length hi - cut xs.length 0 lo) = xs := by
      have z1 : cut xs.length 0 lo = 0 := by rw [ts.length]; exact e.1
      have z2 : cut xs.length xs.length hi = xs.length := by rw [ts.length]; exact e.2
      rw [z1, z2, List.drop_zero, Nat.sub_zero, List.take_length]
    rw [e1] at t
    exact t.val C rp
  · rename_i p' hne
    split at h
    · rename_i xs e1
      cases h
      obtain ⟨a, vs, rfl, hs, ts⟩ := rp.seq C e1
      rcases hs with ⟨hs, _⟩ | ⟨_, hs⟩
      · exact ofSl sl_list ⟨a, vs, rfl, hs, fun c hc => t.newL C hc (ts.cut lo hi)⟩
      · exact absurd hs (hne xs)
    · cases h
theorem se_sl {a : IE} {lo hi : Option IE} {x : Expr} {l h : Option Expr} {p2 pos : Pos} {tl th : TO} (pl : PO X l tl) (ph : PO X h th) (ha : SE P cf n0 ca L X W a x) (hl : SO' P cf n0 ca L X W lo l tl) (hh : SO' P cf n0 ca L X W hi h th) :
    SE P cf n0 ca L X W (.sl a lo hi) (.Subscript x (.Slice l h none p2) pos) := fun F ρ S σ H G α Q C hE o => by
  simp only [evalE] at o
  refine ofE (pe_slice (sR X) (pE x) pl ph) (ha.p F ρ S σ H G α _ C hE (o.bind.mono (fun r S1 o1 v H1 G1 α1 l1 p1 C1 rv => ?_) fun _ _ _ z => z))
  refine hl F ρ S1 σ H1 G1 α1 _ C1 (hE.mono l1 p1) (o1.bind.mono (fun lv S2 o2 H2 G2 α2 l2 p2 C2 => ?_) fun _ _ _ z => z.mono l1 p1)
  refine hh F ρ S2 σ H2 G2 α2 _ C2 (hE.mono (l1.trans l2) (p1.trans p2)) (o2.bind.mono (fun hv S3 o3 H3 G3 α3 l3 p3 C3 => ?_) fun _ _ _ z => z.mono (l1.trans l2) (p1.trans p2))
  split at o3
  · rename_i rr e
    exact evSl_ok C3 (rv.mono (l2.trans l3) (p2.trans p3)) e fun v4 H4 G4 α4 l4 p4 C4 r4 => o3 v4 H4 G4 α4 (l1.trans (l2.trans (l3.trans l4))) (p1.trans (p2.trans (p3.trans p4))) C4 r4
  · exact o3.elim
/-! ### dicts displayed -/
theorem se_dct0 {pos : Pos} : SE P cf n0 ca L X W .dct0 (.Dict [] [] pos) := fun F ρ S σ H G α Q C hE o =>
  ofE pe_dnewK fun a ha => o (.ref a) _ _ α (Le.upd (o := .dK []) (C.gn ha)) (Pre.refl _) (C.newG (o := .dK []) ha) (.dct (kvs := []) upd_same .nil)
theorem isKey_inv {K : PySem.W.Frag} {G : Hp} {α : List Addr} {p : PV} {v : V} (r : R K ca G α p v) (h : isKey p = true) : ∃ ky : Key, v = kV ky ∧ p = keyP ky := by
  cases r <;> first | (cases h; done) | skip
  · exact ⟨.inl _, rfl, rfl⟩
  · exact ⟨.inr _, rfl, rfl⟩
theorem se_dct1 {a e : IE} {x y : Expr} {pos : Pos} (ha : SE P cf n0 ca L X W a x) (he : SE P cf n0 ca L X W e y) : SE P cf n0 ca L X W (.dct1 a e) (.Dict [some x] [y] pos) := fun F ρ S σ H G α Q C hE o => by
  simp only [evalE] at o
  refine ofE (pe_disp (pps_cons (pE x) (pE y) pps_nil) rfl rfl (fun z => by cases z) (by show 1 ≤ 15; decide)) fun d hd => ?_
  have fD : F d = none := C.fn hd
  have weak : ∀ {c : Nat} {v : PV} {S1 : Store} {G1 : Hp} {α1 : List Addr}, Le G G1 → Pre α α1 → XP X.K ca L F (fun c d H' => W c d σ H') G α c v S1 → XP X.K ca L (upd F d (.dK [])) (fun c d H' => W c d σ H') G1 α1 c v S1 := fun {c v S1 G1 α1} l p z dd xx H' G' α' l2 p2 C2 => z dd xx H' G' α' (l.trans l2) (p.trans p2) (C2.drop fD)
  refine ha.p (upd F d (.dK [])) ρ S σ _ G α _ ((C.new (o := .dK []) hd).hold upd_same (C.gn hd) (C.an hd)) hE (o.bind.mono (fun r S1 o1 v H1 G1 α1 l1 p1 C1 rv => ?_) fun _ _ _ z => weak (Le.refl _) (Pre.refl _) z)
  refine he.p (upd F d (.dK [])) ρ S1 σ H1 G1 α1 _ C1 (hE.mono l1 p1) (o1.bind.mono (fun q S2 o2 u H2 G2 α2 l2 p2 C2 ru => ?_) fun _ _ _ z => weak l1 p1 z)
  split at o2
  · rename_i hk
    obtain ⟨ky, rfl, ek⟩ := isKey_inv rv hk
    refine ⟨C2.fh d _ upd_same, [(ky, u)], rfl, by show 1 ≤ 15; decide, ?_⟩
    have C3 := (C2.swap (u := .dK (mergeK [] [(ky, u)])) rfl fD)
    have hg := C3.fg d _ upd_same
    have hα := C3.fa d _ upd_same
    have C4 := (C3.drop fD).fix (p := d) upd_same hg fD hα
    refine o2 (.ref d) _ _ α2 ((l1.trans l2).trans (Le.upd hg)) (p1.trans p2) C4 ?_
    rw [ek]
    exact .dct (kvs := [(ky, u)]) upd_same (.cons (ru.mono (Le.upd hg) (Pre.refl _)) .nil)
  · exact o2.elim
end
/-! ### statements -/
section
variable (P : Pg) (cf : Nat → List PV → Store → Out RV) (n0 w : Nat) (ca : Nat → Addr) (L : Nat → Prop) (X : Cx) (W : WX)
def OS (F G : Hp) (α : List Addr) (D : Ends) : SO → Prop
  | .nx ρ' S' => ∀ σ' H' G' α', Le G G' → Pre α α' → Conc X.K ca L G' F α' S' H' → EnvR X.K ca G' α' ρ' σ' → D.nx σ' H'
  | .ct ρ' S' => ∀ σ' H' G' α', Le G G' → Pre α α' → Conc X.K ca L G' F α' S' H' → EnvR X.K ca G' α' ρ' σ' → D.ct σ' H'
  | .bk ρ' S' => ∀ σ' H' G' α', Le G G' → Pre α α' → Conc X.K ca L G' F α' S' H' → EnvR X.K ca G' α' ρ' σ' → D.bk σ' H'
  | .rt r S' => ∀ v H' G' α', Le G G' → Pre α α' → Conc X.K ca L G' F α' S' H' → RVR X.K ca G' F α' H' r v → D.rt v H'
  | .exn c p ρ' S' => ∀ d x σ' H' G' α', Le G G' → Pre α α' → Conc X.K ca L G' F α' S' H' → EnvR X.K ca G' α' ρ' σ' → G' d = some (.xd [(sValue, x)]) → R X.K ca G' α' p x → W (.ref (ca c)) (some d) σ' H'
  | .bad => False
def SS (st : IS) (x : Stmt) : Prop := ∀ (F : Hp) (ρ : Rho) (S : Store) (σ : L2.St) (H G : Hp) (α : List Addr) (D : Ends), Conc X.K ca L G F α S H → EnvR X.K ca G α ρ σ → OS ca L X W F G α D (execS P cf n0 w st ρ S) → wS X x D σ H
def SSs (st : List IS) (x : List Stmt) : Prop := ∀ (F : Hp) (ρ : Rho) (S : Store) (σ : L2.St) (H G : Hp) (α : List Addr) (D : Ends), Conc X.K ca L G F α S H → EnvR X.K ca G α ρ σ → OS ca L X W F G α D (execSs P cf n0 w st ρ S) → wSs X x D σ H
end
section
variable {P : Pg} {cf : Nat → List PV → Store → Out RV} {n0 : Nat} {ca : Nat → Addr} {L : Nat → Prop} {X : Cx} {W : WX} {T : Tab} {N : List Str} {w n k : Nat} {nm : Names}
theorem OS.mono {F G G' : Hp} {α α' : List Addr} {D : Ends} {o : SO} (l : Le G G') (p : Pre α α') (h : OS ca L X W F G α D o) : OS ca L X W F G' α' D o := by
  cases o with
  | nx ρ S => exact fun σ' H' G2 α2 l2 p2 => h σ' H' G2 α2 (l.trans l2) (p.trans p2)
  | ct ρ S => exact fun σ' H' G2 α2 l2 p2 => h σ' H' G2 α2 (l.trans l2) (p.trans p2)
  | bk ρ S => exact fun σ' H' G2 α2 l2 p2 => h σ' H' G2 α2 (l.trans l2) (p.trans p2)
  | rt r S => exact fun v H' G2 α2 l2 p2 => h v H' G2 α2 (l.trans l2) (p.trans p2)
  | exn c v ρ S => exact fun d x σ' H' G2 α2 l2 p2 => h d x σ' H' G2 α2 (l.trans l2) (p.trans p2)
  | bad => exact h
/-- an expression at the head of a statement -/
theorem OS.of {α₀ : Type} {o : Out α₀} {ρ : Rho} {kk : α₀ → Store → SO} {F G : Hp} {α : List Addr} {D : Ends} {σ : L2.St} (hE : EnvR X.K ca G α ρ σ) (h : OS ca L X W F G α D (SO.of o ρ kk)) :
    OutE o (fun a S' => OS ca L X W F G α D (kk a S')) (XP X.K ca L F (fun c d H' => W c d σ H') G α) := by
  cases o with
  | ok a S => exact h
  | exn c v S => exact fun d x H' G' α' l p C e r => h d x σ H' G' α' l p C (hE.mono l p) e r
  | bad => exact h
theorem sw_no {e : Expr} {t : Option Expr} {l : Nat} {env : PySem.Env} (h : noComp e = true) : swapsWith e t l env = pure false := by
  cases e <;> first | rfl | cases h
theorem ss_doc {x : Str} {j : Nat} {p p' : Pos} : SS P cf n0 w ca L X W .doc (.Expr (.Constant (.str x) j p) p') := fun F ρ S σ H G α D C hE o =>
  ofS ps_doc (o σ H G α (Le.refl _) (Pre.refl _) C hE)
/-- the name gets its value -/
theorem bind_ok {F G H : Hp} {α : List Addr} {S : Store} {ρ : Rho} {σ : L2.St} {r : RV} {v : V} (C : Conc X.K ca L G F α S H) (hE : EnvR X.K ca G α ρ σ) (rv : RVR X.K ca G F α H r v) :
    ∃ α', Pre α α' ∧ Conc X.K ca L G F α' (bindR r S).2 H ∧ EnvR X.K ca G α' ρ σ ∧ R X.K ca G α' (bindR r S).1 v := by
  cases r with
  | v p => exact ⟨α, Pre.refl _, C, hE, rv⟩
  | f c =>
    obtain ⟨a, rfl, hc, hn, hg, hf⟩ := rv
    refine ⟨α ++ [a], Pre.app _ _, C.push hc hg hf hn, hE.mono (Le.refl _) (Pre.app _ _), .loc ?_⟩
    rw [← C.len, List.getElem?_append_right (Nat.le_refl _), Nat.sub_self]
    rfl
theorem ss_asg {i : Nat} {e : IE} {x : Str} {y : Expr} {p p' : Pos} (nd : X.N.Nodup) (hi : X.N[i]? = some x) (hx : Loc X.env.scope x ∧ (X.fn x = true ∨ X.env.scope.names.lookup x = some .local)) (hy : noComp y = true) (he : SE P cf n0 ca L X W e y) : SS P cf n0 w ca L X W (.asg i e) (.Assign [.Name x p] y p') := fun F ρ S σ H G α D C hE o => by
  have o : OS ca L X W F G α D (SO.of (evalE P cf n0 e ρ S) ρ fun r S1 => SO.nx (ρ.set i (some (bindR r S1).1)) (bindR r S1).2) := o
  refine ofS (ps_set nd hi hx.1 (pE y) (sw_no hy) hx.2) (he F ρ S σ H G α _ C hE ((OS.of hE o).mono (fun r S1 o1 v H1 G1 α1 l1 p1 C1 rv => ?_) fun _ _ _ z => z))
  obtain ⟨α2, p2, C2, hE2, r2⟩ := bind_ok C1 (hE.mono l1 p1) rv
  exact o1 _ H1 G1 α2 l1 (p1.trans p2) C2 (hE2.set r2 i)
theorem ss_ex {e : IE} {x : Expr} {p : Pos} (hy : noComp x = true) (he : SE P cf n0 ca L X W e x) : SS P cf n0 w ca L X W (.ex e) (.Expr x p) := fun F ρ S σ H G α D C hE o => by
  have o : OS ca L X W F G α D (SO.of (evalE P cf n0 e ρ S) ρ fun _ S1 => SO.nx ρ S1) := o
  exact ofS (ps_expr (pE x) (sw_no hy)) (he F ρ S σ H G α _ C hE ((OS.of hE o).mono (fun r S1 o1 v H1 G1 α1 l1 p1 C1 rv => o1 σ H1 G1 α1 l1 p1 C1 (hE.mono l1 p1)) fun _ _ _ z => z))
theorem ss_ret {e : IE} {x : Expr} {p : Pos} (he : SE P cf n0 ca L X W e x) : SS P cf n0 w ca L X W (.ret e) (.Return (some x) p) := fun F ρ S σ H G α D C hE o => by
  have o : OS ca L X W F G α D (SO.of (evalE P cf n0 e ρ S) ρ fun r S1 => SO.rt r S1) := o
  exact ofS (ps_ret (pE x)) (he F ρ S σ H G α _ C hE ((OS.of hE o).mono (fun r S1 o1 v H1 G1 α1 l1 p1 C1 rv => o1 v H1 G1 α1 l1 p1 C1 rv) fun _ _ _ z => z))
theorem ss_asgT {tg : Tgt} {e : IE} {t y : Expr} {p : Pos} (hy : noComp y = true) (hw : swappedStores [t] y X.env = pure none) (h1 : (assignEach [t] X.env).map (·.2) = [assign t X.env]) (ht : SG X ca tg t) (he : SE P cf n0 ca L X W e y) : SS P cf n0 w ca L X W (.asgT tg e) (.Assign [t] y p) := fun F ρ S σ H G α D C hE o => by
  have o : OS ca L X W F G α D (SO.of (evalE P cf n0 e ρ S) ρ fun r S1 => match Tgt.set tg r.fz ρ with
    | some ρ' => SO.nx ρ' S1
    | none => .bad) := o
  refine ofS (ps_asg (pE y) (pG t) (sw_no hy) hw h1) (he.p F ρ S σ H G α _ C hE ((OS.of hE o).mono (fun r S1 o1 v H1 G1 α1 l1 p1 C1 rv => ?_) fun _ _ _ z => z))
  split at o1
  · rename_i ρ' e1
    exact ht σ H1 G1 α1 ρ ρ' r.fz v _ C1.gh (hE.mono l1 p1) rv e1 fun σ' hE' _ => o1 σ' H1 G1 α1 l1 p1 C1 hE'
  · exact o1.elim
theorem sub_assign {o i : Expr} {pos : Pos} {env : PySem.Env} (h : noSlice i = true) (v : Value) : assign (.Subscript o i pos) env v = (do
      let ov ← holding [v] (eval o env)  -- so
      let iv ← holding [v, ov] (eval i env)  -- so
      standAt pos
      holding [v, ov, iv] (setItem ov iv v)  -- so
      release [v, ov, iv] []) := by
  cases i <;> first | rfl | cases h
theorem ss_sub {o i e : IE} {x y z : Expr} {p p' : Pos} (hL : ∀ m, L m → m ≤ n0) (hz : noComp z = true) (hy : noSlice y = true) (ho : SE P cf n0 ca L X W o x) (hi : SE P cf n0 ca L X W i y) (he : SE P cf n0 ca L X W e z) : SS P cf n0 w ca L X W (.sub o i e) (.Assign [.Subscript x y p] z p') := fun F ρ S σ H G α D C hE q => by
  have q : OS ca L X W F G α D (SO.of (evalE P cf n0 e ρ S) ρ fun r S1 => SO.of (evalE P cf n0 o ρ S1) ρ fun p S2 => SO.of (evalE P cf n0 i ρ S2) ρ fun q S3 =>
      match putAt n0 S3 p.fz q.fz r.fz with
      | some S4 => SO.nx ρ S4
      | none => .bad) := q
  refine ofS (ps_asg (pE z) (pg_sub (pE x) (pE y) set_list (sub_assign hy)) (show swapsWithSole [.Subscript x y p] z p'.line X.env = pure false from by unfold swapsWithSole; exact sw_no hz) rfl rfl) (he.p F ρ S σ H G α _ C hE ((OS.of hE q).mono (fun r S1 o1 v H1 G1 α1 l1 p1 C1 rv => ?_) fun _ _ _ z => z))
  have hE1 := hE.mono l1 p1
  refine ho.p F ρ S1 σ H1 G1 α1 _ C1 hE1 ((OS.of hE1 (o1.mono l1 p1)).mono (fun r2 S2 o2 v2 H2 G2 α2 l2 p2 C2 rv2 => ?_) fun _ _ _ z => z)
  have hE2 := hE1.mono l2 p2
  refine hi.p F ρ S2 σ H2 G2 α2 _ C2 hE2 ((OS.of hE2 (o2.mono l2 p2)).mono (fun r3 S3 o3 v3 H3 G3 α3 l3 p3 C3 rv3 => ?_) fun _ _ _ z => z)
  split at o3
  · rename_i S4 e4
    exact putAt_ok hL C3 (rv2.mono l3 p3) rv3 (rv.mono (l2.trans l3) (p2.trans p3)) e4 fun H4 C4 => o3 σ H4 G3 α3 l3 p3 C4 (hE2.mono l3 p3)
  · exact o3.elim
theorem ss_ifs {c : IE} {a b : List IS} {x : Expr} {y z : List Stmt} {p : Pos} (hc : ST P cf n0 ca L X W c x) (ha : SSs P cf n0 w ca L X W a y) (hb : SSs P cf n0 w ca L X W b z) : SS P cf n0 w ca L X W (.ifs c a b) (.If x y z p) := fun F ρ S σ H G α D C hE o => by
  have o : OS ca L X W F G α D (SO.of (evalT P cf n0 c ρ S) ρ fun t S1 => if t then execSs P cf n0 w a ρ S1 else execSs P cf n0 w b ρ S1) := o
  refine ofS (ps_if (pT x) (pSs y) (pSs z)) (hc F ρ S σ H G α _ C hE ((OS.of hE o).mono (fun t S1 o1 H1 G1 α1 l1 p1 C1 => ?_) fun _ _ _ z => z))
  cases t with
  | true => exact ha F ρ S1 σ H1 G1 α1 D C1 (hE.mono l1 p1) (OS.mono l1 p1 o1)
  | false => exact hb F ρ S1 σ H1 G1 α1 D C1 (hE.mono l1 p1) (OS.mono l1 p1 o1)
theorem sss_nil : SSs P cf n0 w ca L X W [] [] := fun F ρ S σ H G α D C hE o => ofSs pss_nil (o σ H G α (Le.refl _) (Pre.refl _) C hE)
theorem sss_cons {s : IS} {r : List IS} {x : Stmt} {xs : List Stmt} (h : SS P cf n0 w ca L X W s x) (hr : SSs P cf n0 w ca L X W r xs) : SSs P cf n0 w ca L X W (s :: r) (x :: xs) := fun F ρ S σ H G α D C hE o => by
  have o : OS ca L X W F G α D ((execS P cf n0 w s ρ S).seq fun ρ' S' => execSs P cf n0 w r ρ' S') := o
  refine ofSs (pss_cons (pS x) (pSs xs)) (h F ρ S σ H G α _ C hE ?_)
  cases e : execS P cf n0 w s ρ S with
  | nx ρ' S' =>
    rw [e] at o
    exact fun σ' H' G' α' l p C' hE' => hr F ρ' S' σ' H' G' α' D C' hE' (OS.mono l p o)
  | ct ρ' S' => rw [e] at o; exact o
  | bk ρ' S' => rw [e] at o; exact o
  | rt r S' => rw [e] at o; exact o
  | exn c v ρ' S' => rw [e] at o; exact o
  | bad => rw [e] at o; exact o
end
end Ip

/-! IpSnd10: loops, two names at once, a comprehension given to a name. -/
namespace Ip
open PySem PySem.Spec PyProof.Rows L2  -- so
section
variable {P : Pg} {cf : Nat → List PV → Store → Out RV} {n0 : Nat} {ca : Nat → Addr} {L : Nat → Prop} {X : Cx} {W : WX} {T : Tab} {N : List Str} {w n k : Nat} {nm : Names}
theorem noSet_ok {x : Expr} {env : PySem.Env} (h : noSet x = true) : ∀ v, foldedSetIterable x env v = pure v := fun v => by
  cases x <;> first | rfl | cases h
variable (P cf n0 w) in
def forStep (tg : Tgt) (b : List IS) (x : PV) (ρ2 : Rho) (S2 : Store) : SO := match Tgt.set tg x ρ2 with
  | some ρ' => execSs P cf n0 w b ρ' S2
  | none => .bad
theorem ss_for {tg : Tgt} {it : IE} {b : List IS} {t i : Expr} {y : List Stmt} {p : Pos} (po : PassesOwn (model X.prog X.w) X.A X.env X.xe) (hc : X.calm = true) (hs : noSet i = true) (hI : SI P cf n0 ca L X W it t i) (hG : SG X ca tg t) (hb : SSs P cf n0 w ca L X W b y) :
    SS P cf n0 w ca L X W (.for_ tg it b) (.For t i y [] p) := fun F ρ S σ H G α D C hE o => by
  have o : OS ca L X W F G α D (SO.of (evalE P cf n0 it ρ S) ρ fun p S1 => match seqOf S1 p.fz with
    | some xs => forGo (fun S2 => sameSeq S2 p.fz xs) (forStep P cf n0 w tg b) xs ρ S1
    | none => .bad) := o
  refine ofS (ps_for po hc (pIt t i) (pG t) (pSs y) (noSet_ok hs)) (hI F ρ S σ H G α _ C hE ((OS.of hE o).mono (fun r S1 o1 => ?_) fun _ _ _ z => z))
  split at o1
  · rename_i xs sq
    refine ⟨xs, sq, fun J H1 G1 α1 l1 p1 C1 wk _ => ?_⟩
    refine ⟨fun j m σj Hj => m = xs.length - j ∧ j ≤ xs.length ∧ ∃ (G2 : Hp) (α2 : List Addr) (S2 : Store) (ρ2 : Rho), Le G1 G2 ∧ Pre α1 α2 ∧ Conc X.K ca L G2 F α2 S2 Hj ∧ EnvR X.K ca G2 α2 ρ2 σj ∧ OS ca L X W F G2 α2 D (forGo (fun S2 => sameSeq S2 r.fz xs) (forStep P cf n0 w tg b) (xs.drop j) ρ2 S2),
      ⟨xs.length, by omega, Nat.zero_le _, G1, α1, S1, ρ, Le.refl _, Pre.refl _, C1, hE.mono l1 p1, OS.mono l1 p1 o1⟩, fun j m σj Hj hW => ?_⟩
    obtain ⟨rfl, hj, G2, α2, S2, ρ2, l2, p2, C2, hE2, o2⟩ := hW
    by_cases hlt : j < xs.length
    · right
      rw [List.drop_eq_getElem_cons hlt] at o2
      simp only [forGo] at o2
      split at o2
      case isFalse => exact o2.elim
      rename_i hgood
      obtain ⟨w1, w2⟩ := wk G2 F Hj α2 S2 l2 p2 C2 hgood
      obtain ⟨g1, g2⟩ := w1 j xs[j] (List.getElem?_eq_getElem hlt)
      refine ⟨g1, fun σ' H' => ∃ (G2 : Hp) (α2 : List Addr) (S2 : Store) (ρ2 : Rho), Le G1 G2 ∧ Pre α1 α2 ∧ Conc X.K ca L G2 F α2 S2 H' ∧ EnvR X.K ca G2 α2 ρ2 σ' ∧ OS ca L X W F G2 α2 D (forGo (fun S2 => sameSeq S2 r.fz xs) (forStep P cf n0 w tg b) (xs.drop (j + 1)) ρ2 S2),
        fun σ' H' hN => ⟨xs.length - (j + 1), by omega, rfl, hlt, hN⟩, fun x H' yl => ?_⟩
      obtain ⟨G3, l3, C3, r3⟩ := g2 x H' yl
      cases et : Tgt.set tg xs[j] ρ2 with
      | none => simp only [forStep, et] at o2; exact o2.elim
      | some ρ' =>
        simp only [forStep, et] at o2
        refine hG σj H' G3 α2 ρ2 ρ' xs[j] x _ C3.gh (hE2.mono l3 (Pre.refl _)) r3 et fun σ' hE' _ => ?_
        refine hb F ρ' S2 σ' H' G3 α2 _ C3 hE' ?_
        cases eb : execSs P cf n0 w b ρ' S2 with
        | nx ρ3 S3 =>
          rw [eb] at o2
          exact fun σ4 H4 G4 α4 l4 p4 C4 hE4 => ⟨G4, α4, S3, ρ3, l2.trans (l3.trans l4), p2.trans p4, C4, hE4, OS.mono (l3.trans l4) p4 o2⟩
        | ct ρ3 S3 =>
          rw [eb] at o2
          exact fun σ4 H4 G4 α4 l4 p4 C4 hE4 => ⟨G4, α4, S3, ρ3, l2.trans (l3.trans l4), p2.trans p4, C4, hE4, OS.mono (l3.trans l4) p4 o2⟩
        | bk ρ3 S3 =>
          rw [eb] at o2
          exact fun σ4 H4 G4 α4 l4 p4 C4 hE4 => o2 σ4 H4 G4 α4 (l3.trans l4) p4 C4 hE4
        | rt v S3 =>
          rw [eb] at o2
          exact fun v4 H4 G4 α4 l4 p4 C4 r4 => o2 v4 H4 G4 α4 (l3.trans l4) p4 C4 r4
        | exn c v ρ3 S3 =>
          rw [eb] at o2
          exact fun d x σ4 H4 G4 α4 l4 p4 => o2 d x σ4 H4 G4 α4 (l3.trans l4) p4
        | bad => rw [eb] at o2; exact o2.elim
    · left
      have ej : j = xs.length := by omega
      subst ej
      rw [List.drop_length] at o2
      simp only [forGo] at o2
      split at o2
      · rename_i hgood
        obtain ⟨w1, w2⟩ := wk G2 F Hj α2 S2 l2 p2 C2 hgood
        exact ⟨w2, o2 σj Hj G2 α2 (Le.refl _) (Pre.refl _) C2 hE2⟩
      · exact o2.elim
  · exact o1.elim
theorem ss_while {c : IE} {b : List IS} {x : Expr} {y : List Stmt} {p : Pos} (po : PassesOwn (model X.prog X.w) X.A X.env X.xe) (hc : ST P cf n0 ca L X W c x) (hb : SSs P cf n0 w ca L X W b y) : SS P cf n0 w ca L X W (.while_ c b) (.While x y [] p) := fun F ρ S σ H G α D C hE o => by
  have o : OS ca L X W F G α D (whileGo (evalT P cf n0 c) (execSs P cf n0 w b) w ρ S) := o
  refine ofS (ps_while po (pT x) (pSs y)) ⟨fun m σj Hj => ∃ (G2 : Hp) (α2 : List Addr) (S2 : Store) (ρ2 : Rho), Conc X.K ca L G2 F α2 S2 Hj ∧ EnvR X.K ca G2 α2 ρ2 σj ∧ OS ca L X W F G2 α2 D (whileGo (evalT P cf n0 c) (execSs P cf n0 w b) m ρ2 S2), ⟨w, G, α, S, ρ, C, hE, o⟩, fun m σj Hj hW => ?_⟩
  obtain ⟨G2, α2, S2, ρ2, C2, hE2, o2⟩ := hW
  cases m with
  | zero => exact o2.elim
  | succ m =>
    simp only [whileGo] at o2
    refine hc F ρ2 S2 σj Hj G2 α2 _ C2 hE2 ((OS.of hE2 o2).mono (fun t S3 o3 H3 G3 α3 l3 p3 C3 => ?_) fun _ _ _ z => z)
    cases t with
    | false => exact o3 σj H3 G3 α3 l3 p3 C3 (hE2.mono l3 p3)
    | true =>
      refine ⟨fun σ' H' => ∃ (G2 : Hp) (α2 : List Addr) (S2 : Store) (ρ2 : Rho), Conc X.K ca L G2 F α2 S2 H' ∧ EnvR X.K ca G2 α2 ρ2 σ' ∧ OS ca L X W F G2 α2 D (whileGo (evalT P cf n0 c) (execSs P cf n0 w b) m ρ2 S2), fun σ' H' hN => ⟨m, Nat.lt_succ_self _, hN⟩, ?_⟩
      refine hb F ρ2 S3 σj H3 G3 α3 _ C3 (hE2.mono l3 p3) ?_
      simp only [if_true] at o3
      cases eb : execSs P cf n0 w b ρ2 S3 with
      | nx ρ4 S4 =>
        rw [eb] at o3
        exact fun σ4 H4 G4 α4 l4 p4 C4 hE4 => ⟨G4, α4, S4, ρ4, C4, hE4, OS.mono (l3.trans l4) (p3.trans p4) o3⟩
      | ct ρ4 S4 =>
        rw [eb] at o3
        exact fun σ4 H4 G4 α4 l4 p4 C4 hE4 => ⟨G4, α4, S4, ρ4, C4, hE4, OS.mono (l3.trans l4) (p3.trans p4) o3⟩
      | bk ρ4 S4 =>
        rw [eb] at o3
        exact fun σ4 H4 G4 α4 l4 p4 C4 hE4 => o3 σ4 H4 G4 α4 (l3.trans l4) (p3.trans p4) C4 hE4
      | rt v S4 =>
        rw [eb] at o3
        exact fun v4 H4 G4 α4 l4 p4 C4 r4 => o3 v4 H4 G4 α4 (l3.trans l4) (p3.trans p4) C4 r4
      | exn c v ρ4 S4 =>
        rw [eb] at o3
        exact fun d x σ4 H4 G4 α4 l4 p4 => o3 d x σ4 H4 G4 α4 (l3.trans l4) (p3.trans p4)
      | bad => rw [eb] at o3; exact o3.elim
/-! ### two names at once -/
theorem par_swaps {x y : Str} {px py pt : Pos} {kt k2 : Nat} {pt2 : Pos} {a b : Expr} (hk : X.env.scope.kind = .function) (hx : X.env.scope.names.lookup x = some .local) (hy : X.env.scope.names.lookup y = some .local) (hxy : x ≠ y) (hl : px.line = py.line)
    (sa : starless a = true) (sb : starless b = true) (hf : [a, b].all (foldedForSure 8) = false) (hc : [a, b].all (constantsAlone 8) = false) :
    swappedStores [.Tuple [.Name x px, .Name y py] kt pt] (.Tuple [a, b] k2 pt2) X.env = pure (some [x, y]) := by
  have bk : X.env.blockKind = .function := by unfold Env.blockKind; rw [hk]; rfl
  have kx : X.env.kindOf x = some .local := hx
  have ky : X.env.kindOf y = some .local := hy
  simp only [List.all_cons, List.all_nil, Bool.and_true] at hf hc
  have st : ∀ {α : Type} (e : Expr) (u v : α), starless e = true → (match e with | .Starred _ _ => u | _ => v) = v := fun e u v h => by
    cases e <;> first | rfl | cases h
  unfold swappedStores
  simp only [bind_pure_comp, pure_bind, List.any_cons, List.any_nil, Bool.or_false, List.filterMap_cons, List.filterMap_nil, kx, ky, Expr.pos, bk, List.head?_cons, Option.map_some, Option.getD_some, hl, beq_self_eq_true, Bool.and_self, if_true, List.all_cons, List.all_nil, Bool.and_true, hf, hc]
  split
  · rename_i h
    simp at h
  · split
    · cases sa
    · split
      · cases sb
      · simp [List.eraseDups_cons, Ne.symm hxy]
theorem ss_par {i j : Nat} {a b : IE} {x y : Str} {px py pt pt2 p : Pos} {kt k2 : Nat} {e1 e2 : Expr} (nd : X.N.Nodup) (hc : X.calm = true) (hi : X.N[i]? = some x) (hj : X.N[j]? = some y) (hij : i ≠ j) (hx : X.env.scope.names.lookup x = some .local) (hy : X.env.scope.names.lookup y = some .local) (hxy : x ≠ y) (hl : px.line = py.line)
    (sa : starless e1 = true) (sb : starless e2 = true) (hf : [e1, e2].all (foldedForSure 8) = false) (hcc : [e1, e2].all (constantsAlone 8) = false) (hk : X.env.scope.kind = .function) (ha : SE P cf n0 ca L X W a e1) (hb : SE P cf n0 ca L X W b e2) :
    SS P cf n0 w ca L X W (.par i j a b) (.Assign [.Tuple [.Name x px, .Name y py] kt pt] (.Tuple [e1, e2] k2 pt2) p) := fun F ρ S σ H G α D C hE o => by
  have o : OS ca L X W F G α D (SO.of (evalE P cf n0 a ρ S) ρ fun r S1 => SO.of (evalE P cf n0 b ρ (bindR r S1).2) ρ fun q S2 => SO.nx ((ρ.set i (some (bindR r S1).1)).set j (some (bindR q S2).1)) (bindR q S2).2) := o
  refine ofS (ps_par hc nd hi hj hij hx hy (pa_cons (pE e1) (pa_cons (pE e2) pa_nil (star_cons sb)) (star_cons sa)) (par_swaps hk hx hy hxy hl sa sb hf hcc)) (ha F ρ S σ H G α _ C hE ((OS.of hE o).mono (fun r S1 o1 v H1 G1 α1 l1 p1 C1 rv => ?_) fun _ _ _ z => z))
  obtain ⟨α2, p2, C2, hE2, r2⟩ := bind_ok C1 (hE.mono l1 p1) rv
  refine hb F ρ _ σ H1 G1 α2 _ C2 hE2 ((OS.of hE2 (OS.mono l1 (p1.trans p2) o1)).mono (fun q S3 o3 u H3 G3 α3 l3 p3 C3 ru => ?_) fun _ _ _ z => z)
  obtain ⟨α4, p4, C4, hE4, r4⟩ := bind_ok C3 (hE2.mono l3 p3) ru
  exact ⟨v, u, rfl, o3 _ H3 G3 α4 l3 (p3.trans p4) C4 ((hE4.set ((r2.mono l3 p3).mono (Le.refl _) p4) i).set r4 j)⟩
theorem ss_asgC {i : Nat} {own : List Nat} {own' : List (Str × Nat)} {tg : Tgt} {it elt : IE} {cond : Option IE} {x : Str} {ex t ie : Expr} {ifs : List Expr} {sc : Scope} {px cp p : Pos} (hc : X.calm = true) (nd : X.N.Nodup) (hi : X.N[i]? = some x) (hx : X.env.scope.names.lookup x = some .local) (hk : X.env.scope.kind = .function)
    (hl : (px.line == cp.line) = true) (hn : (sc.names.any fun (n, k) => n == x && (k == .local || k == .cell)) = false) (hs : noSet ie = true) (ok : BlkOk X.N X.env.scope sc own') (how : own'.map (·.2) = own)
    (hI : SI P cf n0 ca L X W it t ie) (hG : ∀ (s : Shared) (H0 : Hp) (C : Addr) (cl : List (Str × Addr)) (fp : List Addr), SG (X.blk s H0 sc (compEnvC sc cl C X.env) fp) ca tg t)
    (hC : SC P cf n0 ca L X sc cond ifs) (pC : ∀ (s : Shared) (H0 : Hp) (C : Addr) (cl : List (Str × Addr)) (fp : List Addr), PTs (X.blk s H0 sc (compEnvC sc cl C X.env) fp) ifs (tIfs X sc ifs))
    (hE0 : ∀ (s : Shared) (H0 : Hp) (C : Addr) (cl : List (Str × Addr)) (fp : List Addr), SE P cf n0 ca L (X.blk s H0 sc (compEnvC sc cl C X.env) fp) (fun _ _ _ _ => False) elt ex) (hix : ∀ i ∈ tg.ix, i ∈ own) :
    SS P cf n0 w ca L X W (.asg i (.comp own tg it cond elt)) (.Assign [.Name x px] (.ListComp ex [⟨t, ie, ifs, 0⟩] sc cp) p) := fun F ρ S σ H G α D C hE o => by
  have o : OS ca L X W F G α D (SO.of (evalE P cf n0 (.comp own tg it cond elt) ρ S) ρ fun r S1 => SO.nx (ρ.set i (some (bindR r S1).1)) (bindR r S1).2) := o
  refine ofS (ps_setLc hc nd hi hx (sw_true hk hx hl hn) (pIt t ie) ok (g := uG X sc t) (tt := tIfs X sc ifs) (te := uE X sc ex) (fun s H0 C cl fp => ⟨fun pins s σ H v u Q I r h => h _ H0 C cl fp pins s u I r⟩) pC (fun s H0 C cl fp => ⟨fun pins s σ H Q I h => h _ H0 C cl fp pins s I⟩) (noSet_ok hs)) ?_
  rw [how]
  refine comp_ok hI hG hC hE0 hix C hE ((OS.of hE o).mono (fun r S1 o1 v H1 G1 α1 l1 p1 C1 rv => ?_) fun _ _ _ z => z)
  obtain ⟨α2, p2, C2, hE2, r2⟩ := bind_ok C1 (hE.mono l1 p1) rv
  exact o1 _ H1 G1 α2 l1 (p1.trans p2) C2 (hE2.set r2 i)
theorem se_comp {own : List Nat} {own' : List (Str × Nat)} {tg : Tgt} {it elt : IE} {cond : Option IE} {ex t ie : Expr} {ifs : List Expr} {sc : Scope} {cp : Pos} (hc : X.calm = true) (nd : X.N.Nodup) (hs : noSet ie = true) (ok : BlkOk X.N X.env.scope sc own') (how : own'.map (·.2) = own)
    (hI : SI P cf n0 ca L X W it t ie) (hG : ∀ (s : Shared) (H0 : Hp) (C : Addr) (cl : List (Str × Addr)) (fp : List Addr), SG (X.blk s H0 sc (compEnvC sc cl C X.env) fp) ca tg t)
    (hC : SC P cf n0 ca L X sc cond ifs) (pC : ∀ (s : Shared) (H0 : Hp) (C : Addr) (cl : List (Str × Addr)) (fp : List Addr), PTs (X.blk s H0 sc (compEnvC sc cl C X.env) fp) ifs (tIfs X sc ifs))
    (hE0 : ∀ (s : Shared) (H0 : Hp) (C : Addr) (cl : List (Str × Addr)) (fp : List Addr), SE P cf n0 ca L (X.blk s H0 sc (compEnvC sc cl C X.env) fp) (fun _ _ _ _ => False) elt ex) (hix : ∀ i ∈ tg.ix, i ∈ own) :
    SE P cf n0 ca L X W (.comp own tg it cond elt) (.ListComp ex [⟨t, ie, ifs, 0⟩] sc cp) := fun F ρ S σ H G α Q C hE o => by
  refine ofE (pe_lc hc nd (pIt t ie) ok (g := uG X sc t) (tt := tIfs X sc ifs) (te := uE X sc ex) (fun s H0 C cl fp => ⟨fun pins s σ H v u Q I r h => h _ H0 C cl fp pins s u I r⟩) pC (fun s H0 C cl fp => ⟨fun pins s σ H Q I h => h _ H0 C cl fp pins s I⟩) (noSet_ok hs)) ?_
  rw [how]
  exact comp_ok hI hG hC hE0 hix C hE o
end
end Ip

/-! IpExc1: an exception of the program's own, whose __init__ says super().__init__(value); self.value = value. -/
namespace Ip
open PySem PySem.Spec PyProof.Rows L2 PySem.W
section
variable {prog : Program} {wd : World} {Ar : Around} {Ex : Value → Shared → Prop} {hp : Heap} {gs : Array GenState} {dr : Drawn} {tk : Nat} {osS : OsState}
variable {cnm cq : Str} {C Nn : Addr} {cbs cbm : List Value} {hdct : Bool} {csn : List Str} {csub : List Value} {cab : Bool} {ccol : Option Bool} {cdd : Option Addr} {k0 k1 k2 k3 k5 : Option Value}
/-- the bound ValueError.__init__ is called -/
theorem call_wrap {b e t0 : Addr} {rest : List Value} {Q : Value → Shared → Prop}
    (hC : hp.get? C = some (excClassObj cnm cq C Nn cbs cbm hdct csn csub cab ccol cdd k0 k1 k2 k3 k5 "ValueError.__new__")) (he : hp.get? e = some (PySem.HandSPX.excO C t0)) (hw : hp.get? b = some (kxs_mw "ValueError.__init__" e)) (hr : rest.length ≤ sizeLine)
    (fin : ∀ hp' t1, (∀ y o, y ≠ e → hp.get? y = some o → hp'.get? y = some o) → hp'.get? e = some (PySem.HandSPX.excO C t1) → Q .none ⟨hp', gs, dr, tk, osS⟩) :
    wpAny (model prog wd) Ar (call (.ref b) rest) Q Ex ⟨hp, gs, dr, tk, osS⟩ := by
  refine wpAny_call (codeAny_of_tree ?_)  -- so
  show wpAny (model prog wd) Ar.in1 (callAny (.ref b) ⟨rest, []⟩) _ _ _
  simp only [callAny]
  refine wpAny_bind (wpAny_load hw ?_)
  have dec : (Value.type "method-wrapper" == Value.type "method" || Value.type "method-wrapper" == Value.type "builtin_function_or_method" || Value.type "method-wrapper" == Value.type "method-wrapper") = true := by decide
  simp only [kxs_mw, dec, if_true]
  refine PySem.W.KFB.if_so (by decide) ?_  -- so
  refine wpAny_bind (PySem.ESX.check_bound F.excBase_ValueError hC he rfl ?_)
  refine wpAny_bind (wpAny_pure (wpAny_pure ?_))  -- so
  refine ⟨Code.quiet_builtin _ (by decide +kernel), codeAny_builtin F.excBase_ValueError.initEntry ?_⟩
  rw [Around.under_plainId F.excBase_ValueError.init.plain _]
  wp_walk
  refine fin _ hp.objs.size (fun y o hy ho => ?_) ?_
  · rw [Heap.get?_update_other _ _ (Ne.symm hy)]
    exact Heap.get?_push_of_some _ ho  -- so
  · rw [Heap.get?_update_self _ (Heap.get?_push_of_some _ he) rfl]  -- so
    rfl
end
theorem superCall_eq {o : Expr} {x : Expr} {nm : Str} {ap ps : Pos} {env : PySem.Env} (hx : starless x = true) (hl : (ap.endLine == ps.line) = true) : eval (.Call (.Attribute o nm ap) [x] [] ps) env = (do
    let ov ← attributeBase o nm env (eval o env)
    standAt ap.atName
    let (f, first) ← holding [ov] (getMethod ov nm (do return (← importBound o env).getD true))
    callWith ps f first (backTo ps (starEach [x] env)) []) := by
  have e0 : starEach [x] env = [(false, eval x env)] := star_cons hx
  show (do
    let ov ← attributeBase o nm env (eval o env)
    standAt ap.atName
    methodCall o nm ap ps env ov _ (backTo ps (starEach [x] env)) (backToKw ps [])) = _
  have hf : ∀ n, n < 10 → methodCallForm n (backTo ps (starEach [x] env)) (backToKw ps []) = true := fun n hn => by
    rw [e0]
    show (true && true && decide (n + 0 < 30)) = true
    simp only [Bool.and_self, Bool.true_and, decide_eq_true_eq]
    omega
  have hp : methodCallPos true o env ap ps = pure ps := by unfold methodCallPos; simp [hl]
  unfold methodCall
  rw [hf _ (by show 1 < 10; decide), hp]
  unfold calleeOf
  simp only [if_true, pure_bind]
  rfl
/-- the two lines of the __init__ -/
abbrev supBody (p0 p1 p2 p3 p4 p5 p6 p7 p8 p9 : Pos) : List Stmt :=
  [.Expr (.Call (.Attribute (.Call (.Name "super" p0) [] [] p1) "__init__" p2) [.Name "value" p3] [] p4) p5, .Assign [.Attribute (.Name "self" p6) "value" p7] (.Name "value" p8) p9]
/-- the __init__ at fI, of the class D -/
structure SupI (prog : Program) (K : PySem.W.Frag) (fI D : Addr) : Prop where
  ex : ∃ (nm qual : Str) (params : Arguments) (scope : Scope) (dV kV doc pm ct oc cl ccl : Value) (an od cld ccd : Option Addr) (osl csl ccs : Array (Option Value)) (cda cc : Addr) (vs : Array Value) (file : Str) (tf : Tok) (cdD : ClassData) (p0 p1 p2 p3 p4 p5 p6 p7 p8 p9 : Pos),
    K.lookup fI = some ⟨oc, od, .func (ksFn nm qual params (supBody p0 p1 p2 p3 p4 p5 p6 p7 p8 p9) scope dV kV doc pm an (.ref cda) ct cc), osl⟩ ∧ PySem.W.codeIn K (.ref cda) qual = true ∧
    (∀ us : List Value, us.length = 2 → bindArgs (ksFn nm qual params (supBody p0 p1 p2 p3 p4 p5 p6 p7 p8 p9) scope dV kV doc pm an (.ref cda) ct cc) ⟨us, []⟩ = pure ((["self", "value"] : List Str).zip us)) ∧
    scope.kind = .function ∧ scope.isCoroutine = false ∧ scope.isGenerator = false ∧ (∀ x ∈ scope.names, x.2 ≠ .cell) ∧ scope.names.lookup ("self" : Str) = some .local ∧ scope.names.lookup ("value" : Str) = some .local ∧
    scope.names.lookup ("super" : Str) = some .globalImplicit ∧ scope.names.lookup ("__class__" : Str) = some .free ∧ (∃ ar, (params.posonlyargs ++ params.args).head? = some ar ∧ ar.arg = "self") ∧
    K.lookup cda = some ⟨ccl, ccd, .fields vs, ccs⟩ ∧ vs[2]? = some (.str file tf) ∧ ((prog.main.file : Str) == file) = true ∧ K.lookup cc = some ⟨cl, cld, .cell (some (.ref D)), csl⟩ ∧ PySem.W.clsIn K D = some cdD ∧ (p2.endLine == p4.line) = true
  top : (prog.main.scope.names.lookup ("super" : Str)).isSome = false
  tyI : PySem.W.typeIn K (.ref fI) = some (.type "function")
  anyN : nsIn K cStatics "thirdparty.any" = some none
/-- a class below D that has no __init__ of its own -/
structure SupC (K : PySem.W.Frag) (fI D C : Addr) : Prop where
  ox : OexC K C
  iC : PySem.W.findIn K (.ref C) "__init__" = some (some (.ref fI))
  mD : PySem.W.mroIn K C (.ref D) = some true
  su : ks_superIn K C D "__init__" = some (some (.builtin "ValueError.__init__"))
  vE : PySem.W.subIn K (.ref C) (.type "ValueError") = some true
  no : PySem.W.findIn K (.ref C) sValue = some none
section
variable {prog : Program} {wd : World} {Ar : Around} {R : Result → Shared → Prop} {hp : Heap} {gs : Array GenState} {dr : Drawn} {tk : Nat} {osS : OsState} {K : PySem.W.Frag} {mg mb : Str → Option Value} {fI D C e t0 : Addr} {u : Value}
/-- the __init__ runs -/
theorem init_raw (I : SupI prog K fI D) (S : SupC K fI D C) (X : K.In hp) (hlim : hp.NoLimit) (hg : hp.Ns mainGlobals mg) (hb : hp.Ns builtinsNs mb) (hsup : mg ("super" : Str) = none) (hbt : mb ("super" : Str) = some (.type "super")) (room : Ar.depth < recursionLimit) (hKe : K.lookup e = none)
    (he : hp.get? e = some (PySem.HandSPX.excO C t0))
    (fin : ∀ hp' tk' dx t1, (∀ y o, y ≠ e → hp.get? y = some o → hp'.get? y = some o) → hp.objs.size ≤ dx → dx ≠ e → hp'.get? e = some { cls := .ref C, dict := some dx, data := .fields #[.ref t1, .none, .none, .none, .bool false, .none] } →
      hp'.Ns1 dx (fun y => if y = sValue then some u else none) → R (.ok (.ret .none)) ⟨hp', gs, dr, tk', osS⟩) :
    codeAny (model prog wd) Ar (.call (.ref fI) ⟨[.ref e, u], []⟩) R ⟨hp, gs, dr, tk, osS⟩ := by
  obtain ⟨nm, qual, params, scope, dV, kV, doc, pm, ct, oc, cl, ccl, an, od, cld, ccd, osl, csl, ccs, cda, cc, vs, file, tf, cdD, p0, p1, p2, p3, p4, p5, p6, p7, p8, p9, ho, hcd, hbind, hk, hco, hgen, hcell, ls, lv, lsu, lcl, ⟨ar, har, hself⟩, hcda, hvs, hfile, hcc, hD, hline⟩ := I.ex
  obtain ⟨cnm, cq, Nn, cbs, cbm, csn, csub, cab, ccol, cdd, k0, k1, k2, k3, k5, hC, hbm⟩ := S.ox.cls
  have hcl : PySem.W.clsIn K C = some { name := cnm, bases := cbs, mro := .ref C :: cbm, ns := Nn, qualname := cq, hasDict := true, slotNames := csn, subclasses := csub, abstract := cab, collection := ccol, hasDel := false } := by unfold PySem.W.clsIn; rw [hC] <;> rfl
  refine ks_codeAny_call_defAt (binds := (["self", "value"] : List Str).zip [.ref e, u]) room (X _ _ ho) rfl hlim (codeRec_of X hcd) rfl (BindsTo.of_eq (hbind _ rfl)) hcell (fun y hy => ?_) (fun h1 hns hk1 => ?_) hco hgen hk
  · rcases List.mem_cons.mp hy with rfl | hy  -- so
    · exact ls
    · rcases List.mem_cons.mp hy with rfl | hy  -- so
      · exact lv
      · cases hy
  · have X1 : K.In h1 := X.keeps hk1
    have hg1 := hg.keeps hk1
    have hb1 := hb.keeps hk1
    have vS : ((["self", "value"] : List Str).zip [Value.ref e, u]).reverse.lookup ("self" : Str) = some (.ref e) := rfl
    have vV : ((["self", "value"] : List Str).zip [Value.ref e, u]).reverse.lookup ("value" : Str) = some u := rfl
    have heE := hk1 _ _ he
    obtain ⟨oD, hD1, hD2⟩ : ∃ oD, h1.get? D = some oD ∧ oD.data = .cls cdD := by
      unfold PySem.W.clsIn at hD
      split at hD
      · rename_i z1 z2 z3 z4 zo
        cases hD
        exact ⟨_, X1 _ _ zo, rfl⟩
      · cases hD
    have JI : PySem.W.InstAt h1 e (PySem.HandSPX.excO C t0) C none := ⟨heE, rfl, rfl, trivial⟩
    refine ks_wpAt_execs_cons (ks_wpAt_Expr_any (ks_wpAt_MethodCall (pl := do return (← importBound (.Call (.Name ("super" : Str) p0) [] [] p1) (callEnv (ksFn nm qual params (supBody p0 p1 p2 p3 p4 p5 p6 p7 p8 p9) scope dV kV doc pm an (.ref cda) ct cc) hp.objs.size fI)).getD true) ?_ ?_) ?_ rfl)
    · refine ks_wpAt_super_base lsu lcl (by decide) rfl (X1 _ _ ho) rfl har rfl (X1 _ _ hcda) rfl hvs hfile I.top ?_
      refine ks_loadName_global hk lsu (PySem.Calls.loadGlobal_builtin hg1 hsup hb1 hbt ⟨rfl, ?_⟩)
      refine wpAny_loadName_free hk lcl rfl ⟨_, X1 _ _ hcc, rfl⟩ ?_
      rw [hself]
      refine wpAny_loadName_local hk ls hns vS ?_
      refine ks_wpAny_isType_cls hD1 hD2 ⟨rfl, ?_⟩  -- so
      refine ks_wpAny_call_super hD1 hD2 heE rfl (fun c z => by cases z) (looks_mroIn X1 S.mD) (fun h2 hso hk2 => ?_)
      have X2 : K.In h2 := X1.keeps hk2
      have su := S.su
      unfold ks_superIn at su
      rw [hcl] at su
      have hI : Looks (model prog wd) h2 (isInstance (.ref e) (.type "ValueError")) true := by
        have JI2 : PySem.W.InstAt h2 e (PySem.HandSPX.excO C t0) C none := ⟨hk2 _ _ heE, rfl, rfl, trivial⟩
        exact JI2.type.andThen (looks_subIn X2 S.vE)
      refine kxs_getMethod kxs_ValueError hso (looks_opaque X2 I.anyN) (l₀ := .ref C :: cbm) ?_ rfl X2 su hI (ks_ne X1 JI hcl) (by decide) ?_
      · exact fun A Q E s k q => wpAny_bind ((looks_clsIn X2 hcl) A _ E s k (wpAny_pure q))
      · have hk3 : ∀ (b : Addr) (o : Obj), h2.get? b = some o → (h2.push (kxs_mw "ValueError.__init__" e)).get? b = some o := fun b o z => Heap.get?_push_of_some _ z
        refine kxs_callWith (i := "ValueError.__init__") (x := e) rfl (PySem.Calls.evalArgs_plain (PySem.Calls.spliced_cons ?_))
        have ns3 := (hns.keeps hk2).keeps hk3
        refine PySem.ESX.ldL ns3 vV ?_ hk lv (by decide)
        refine PySem.Calls.spliced_nil ⟨Heap.get?_push_at rfl rfl, ?_⟩
        refine call_wrap (hk3 _ _ (X2 _ _ hC)) (hk3 _ _ (hk2 _ _ heE)) (Heap.get?_push_at rfl rfl) (by show 1 ≤ sizeLine; rw [sizeLine_eq]; omega) fun h4 t1 hk4 he4 => ?_
        have lt1 : e < hp.objs.size := Heap.lt_size he
        have ns4 : h4.Ns hp.objs.size _ := ns3.at fun o z => hk4 _ o (Nat.ne_of_gt lt1) z
        have up4 : ∀ (y : Addr) (o : Obj), y ≠ e → hp.get? y = some o → h4.get? y = some o := fun y o hy z => hk4 y o hy (hk3 _ _ (hk2 _ _ (hk1 _ _ z)))
        have X4 : K.In h4 := fun b o z => by
          refine up4 b o (fun y => ?_) (X b o z)
          rw [y, hKe] at z
          cases z
        refine ks_wpAt_execs_cons (ks_wpAt_Assign_Attr (wpAt_of_wpAny ?_) rfl)
        refine PySem.ESX.ldL (x := "value") ns4 vV ?_ (by exact hk) (by exact lv) (by decide)
        refine PySem.ESX.ldL (x := "self") ns4 vS ?_ (by exact hk) (by exact ls) (by decide)
        refine PySem.W.set_plain X4 (ox := { cls := .ref C, dict := none, data := .fields #[.ref t1, .none, .none, .none, .bool false, .none] }) (od := none) ⟨he4, rfl, rfl, trivial⟩ S.ox.sa ?_
        refine PySem.HandSPX.exc_osa X4 he4 hcl (show PySem.HandSPX.refsVE (.ref C :: cbm) = true from hbm) rfl S.no (fun h5 tk5 dx hk5 hdx dne he5 hn5 => ?_)
        refine wpAt_of_wpAny (wpAny_pure ?_)
        refine fin h5 _ dx t1 (fun y o hy z => hk5 y o hy (up4 y o hy z)) (Nat.le_trans (Nat.le_of_lt ns4.lt) hdx) dne he5 hn5
    · exact superCall_eq rfl hline
    · unfold interactive
      rw [show (callEnv (ksFn nm qual params (supBody p0 p1 p2 p3 p4 p5 p6 p7 p8 p9) scope dV kV doc pm an (.ref cda) ct cc) hp.objs.size fI).scope.kind = .function from hk]
      rfl
end
end Ip

/-! IpExc2: C(value), e.value, isinstance(e, C) as expressions. -/
namespace PySem.W
open PySem PySem.Spec PySem.Calls PyProof.Rows  -- so
section
variable {prog : Program} {wd : World} {Ar : Around} {Ex : Value → Shared → Prop} {s : Shared} {K : Frag} {x D : Addr} {ox : Obj} {od : Option Obj}
/-- e.__class__, e an exception that may have a dict -/
theorem ip_class {Q : Option Value → Shared → Prop} (C : L2.ExcC K D) (X : K.In s.heap) (J : InstAt s.heap x ox D od) (fin : Q (some (.ref D)) { s with toks := s.toks + 1 }) : wpAny (model prog wd) Ar (getAttr? (.ref x) "__class__") Q Ex s := by
  have found : findObj K D od "__class__" = some (.bind (.builtin "getset_descriptor.__get__") (.builtin "object.__class__")) := by
    obtain ⟨cd, hc, _⟩ := any_some C.hd
    unfold findObj
    rw [hc, Option.bind_some, C.ha, Option.bind_some] ; simp [C.hn, C.ht]
  obtain ⟨hp, gs, dr, tk, osS⟩ := s
  have T0 := J.type (M := model prog wd)
  have T1 := looks_findIn (M := model prog wd) X C.hg
  have T2 := looks_findIn (M := model prog wd) X C.hk
  have T3 := looks_find (M := model prog wd) X J found
  have isE : Looks (model prog wd) hp (isInstance (.ref x) (.type "BaseException")) true := T0.andThen (looks_subIn X C.hs)
  have n0 : (Value.builtin "BaseException.__getattribute__" == Value.builtin "object.__getattribute__") = false := by decide +kernel
  have n1 : (onTheHeap (Value.ref D) && Value.builtin "BaseException.__getattribute__" == Value.builtin "object.__getattribute__") = false := (by rw [n0]; rfl)
  have n2 : (false && onTheHeap (Value.builtin "BaseException.__getattribute__")) = false := by rfl
  unfold getAttr? getAttrBy? ; unfold getAttrBy
  refine wpAny_bind (wpAny_mkText (wpAny_bind (wpAny_attempt (wpAny_holding (wpAny_bind (T0.at (wpAny_bind (T1.at ?_))))))))
  show wpAny _ _ (ite ((onTheHeap (Value.ref D) && Value.builtin "BaseException.__getattribute__" == Value.builtin "object.__getattribute__") = true) _ _) _ _ _
  rw [n1, if_neg Bool.false_ne_true] ; unfold getAttrByItsOwn ; unfold hookBefore
  refine wpAny_bind ?_ ; rw [if_pos (show onTheHeap (Value.ref D) = true by rfl)] ; refine T2.at ?_
  refine wpAny_bind (wpAny_attempt (wpAny_holding ?_)) ; unfold callGetattribute
  rw [n2, if_neg Bool.false_ne_true] ; unfold boundAndCalled ; rw [PySem.F.excAttr_ValueError.ga.bind (.ref x)] ; refine wpAny_bind (wpAny_pure ?_)
  show wpAny _ _ (call (.builtin "BaseException.__getattribute__") [.ref x, .str "__class__" tk]) _ _ _
  refine wpAny_call (codeAny_call_builtin PySem.F.excAttr_ValueError.ga.plain PySem.F.entry_bexc_ga (@check_slot (model prog wd) _ _ ⟨hp, gs, dr, tk + 1, osS⟩ "BaseException.__getattribute__" "BaseException" "__getattribute__" (.ref x) [.str "__class__" tk] [] _ (by decide +kernel) (by decide +kernel) isE (PySem.F.args_bexc_ga (.ref x) (.str "__class__" tk)) ?_))
  unfold Builtin.«object.__getattribute__» ; refine wpAny_bind (wpAny_of_eq (a := ((Value.ref x : Value), [Value.str "__class__" tk])) (by first | rfl | (simp only [slotArgs]; rfl)) ?_)
  refine wpAny_bind (wpAny_pure (wpAny_bind (T0.at (wpAny_bind (T3.at ?_)))))
  show wpAny _ _ (holding [Value.builtin "object.__class__"] (call (.builtin "getset_descriptor.__get__") [.builtin "object.__class__", .ref x, .ref D]) >>= fun r => ret r) _ _ _
  refine wpAny_bind (wpAny_holding (wpAny_call (class_get (s := ⟨hp, gs, dr, tk + 1, osS⟩) (ox := ox) (od := od) X J C.hm ?_))) ; refine wpAny_pure ?_
  show wpAny _ _ (handedOut (.ref D)) _ _ _  -- so
  rw [handedOut_of (v := .ref D) rfl] ; first | exact wpAny_pure (wpAny_pure fin) | exact wpAny_pure fin | exact wpAny_pure (wpAny_bind (wpAny_pure (wpAny_pure fin)))
theorem ip_kitx (C : L2.ExcC K D) : KitX K (.ref x) (.ref D) (fun h => InstAt h x ox D od) where
  ty := fun _ _ _ J => J.type
  it := fun _ _ X _ => by
    obtain ⟨cd, hc, _⟩ := any_some C.hd
    unfold clsIn at hc ; split at hc
    · rename_i z1 z2 z3 z4 ho
      intro A' Q' E' s' k q
      unfold isType loadHead ; exact wpAny_bind (wpAny_loadPart (k _ _ (X _ _ ho)) (wpAny_pure q))
    · cases hc
  ne := fun h tp dd its n sl X htp => by  -- so
    obtain ⟨cd, hc, _⟩ := any_some C.hd
    refine Bool.eq_false_iff.mpr fun q => ?_  -- so
    have e : D = tp := Value.ref.inj (beq_iff_eq.mp q)  -- so
    subst e
    unfold clsIn at hc ; split at hc
    · rename_i z1 z2 z3 z4 ho
      have z := (X _ _ ho).symm.trans htp  -- so
      cases z
    · cases hc
  ca := fun X J k => ip_class C X J k
end
end PySem.W
namespace Ip
open PySem PySem.Spec PyProof.Rows L2  -- so
/-- what the text says of an exception class -/
structure ClsOk (prog : Program) (K : PySem.W.Frag) (C : Addr) : Prop where
  ini : ∃ fI D, SupI prog K fI D ∧ SupC K fI D C
  xf : XfC K C
  xc : ExcC K C
section
variable {X : Cx} {pins : List (Addr × Obj)} {σ : L2.St} {H : Hp} {s : Shared}  -- so
/-- an exception is laid, with its dict -/
theorem inv_exc {C a dx t1 : Addr} {h5 : Heap} {tk5 : Nat} {v : V} {u : Value} (I : L2.Inv X pins σ H s) (ha : s.heap.objs.size ≤ a) (hd : s.heap.objs.size ≤ dx) (dne : dx ≠ a) (kp : ∀ (b : Addr) (o : Obj), s.heap.get? b = some o → h5.get? b = some o)
    (he : h5.get? a = some { cls := .ref C, dict := some dx, data := .fields #[.ref t1, .none, .none, .none, .bool false, .none] }) (hn : h5.Ns1 dx (fun y => if y = sValue then some u else none)) (rv : RelV v u) :
    H dx = none ∧ H a = none ∧ L2.Inv X pins σ (upd (upd H dx (.xd [(sValue, v)])) a (exo a C (some dx))) { s with heap := h5, toks := tk5 } := by
  have nd : H dx = none := I.hok.fresh hd
  have na : H a = none := I.hok.fresh ha
  have lt : ∀ {b : Addr} {o : Obj}, s.heap.get? b = some o → b ≠ a ∧ b ≠ dx := fun {b o} q => ⟨Nat.ne_of_lt (Nat.lt_of_lt_of_le (Heap.lt_size q) ha), Nat.ne_of_lt (Nat.lt_of_lt_of_le (Heap.lt_size q) hd)⟩
  have same : ∀ {b : Addr} {o : HO}, H b = some o → upd (upd H dx (.xd [(sValue, v)])) a (exo a C (some dx)) b = some o := fun {b o} q => by
    rw [upd_ne (ne_of_none q na), upd_ne (ne_of_none q nd), q]
  refine ⟨nd, na, I.un (t' := tk5) { keep := fun b o q _ _ _ => kp b o q, slot := fun b o q _ _ _ => ⟨o.slots, kp b o q⟩, free := fun b o q n _ => by rw [upd_ne (lt q).1, upd_ne (lt q).2]; exact n, there := fun b o q _ => ⟨o, kp b o q⟩, tups := fun b xs q => same q, frzs := fun b o v q => same q, tbls := fun b ps q => ⟨#[], by rw [same q]; simp⟩ } fun b o q => ?_⟩
  by_cases ea : b = a
  · subst ea
    rw [upd_same] at q
    cases q
    exact exo_ok he
  · rw [upd_ne ea] at q
    by_cases ed : b = dx
    · subst ed
      rw [upd_same] at q
      cases q
      exact ⟨_, hn, relO_put (fs := []) rv fun g => True.intro⟩
    · rw [upd_ne ed] at q
      exact (I.hok b o q).stay (fun c v _ z => kp c v z) (fun c hc => same hc) (fun c xs hc => same hc)
end
section
variable {P : Pg} {cf : Nat → List PV → Store → Out RV} {n0 : Nat} {ca : Nat → Addr} {L : Nat → Prop} {X : Cx} {W : WX} {T : Tab} {N : List Str} {w n k : Nat}
theorem se_mk {c : Nat} {e : IE} {y : Expr} {x : Str} {p pos : Pos} (M : ClsOk X.prog X.K (ca c)) (hr : Room (k + 1) X.A) (hsu : X.mg ("super" : Str) = none) (hg : Gl X x) (hm : X.mg x = some (.ref (ca c))) (hd : (x == ("__debug__" : Str)) = false) (hy : starless y = true) (he : SE P cf n0 ca L X W e y) :
    SE P cf n0 ca L X W (.mk c e) (.Call (.Name x p) [y] [] pos) := fun Fr ρ S σ H G α Q C hE o => by
  simp only [evalE] at o
  obtain ⟨fI, D, MI, MC⟩ := M.ini
  have main : wA X [y] σ H fun vs H1 => ∃ v, vs = [v] ∧ ∀ a d, H1 a = none → H1 d = none → a ≠ d → Q (.ref a) (upd (upd H1 d (.xd [(sValue, v)])) a (exo a (ca c) (some d))) := by
    refine ofA (pa_cons (pE y) pa_nil (star_cons hy)) (he.p Fr ρ S σ H G α _ C hE (o.bind.mono (fun r S1 o1 v H1 G1 α1 l1 p1 C1 rv => ?_) fun _ _ _ z => z))
    refine ⟨v, rfl, fun a d na nd ne => ?_⟩
    have C2 := C1.newG (p := d) (o := .xd [(sValue, v)]) nd
    have na2 : upd H1 d (.xd [(sValue, v)]) a = none := by rw [upd_ne ne]; exact na
    have C3 := C2.newG (p := a) (o := exo a (ca c) (some d)) na2
    have lg : Le G1 (upd (upd G1 d (.xd [(sValue, v)])) a (exo a (ca c) (some d))) := (Le.upd (C1.gn nd)).trans (Le.upd (C2.gn na2))
    refine o1 (.ref a) _ _ α1 (l1.trans lg) p1 C3 (R.exc (d := d) (φ := fun h => ∃ t1 : Addr, h.get? a = some ({ cls := .ref (ca c), dict := some d, data := .fields #[.ref t1, .none, .none, .none, .bool false, .none] } : Obj)) upd_same (fun h z => ?_) ?_ (rv.mono lg (Pre.refl _)))
    · obtain ⟨t1, z⟩ := z
      exact ⟨_, _, z, rfl, rfl, rfl⟩
    · rw [upd_ne (Ne.symm ne), upd_same]
  intro pins s I
  obtain ⟨cnm, cq, Nn, cbs, cbm, csn, csub, cab, ccol, cdd, k0, k1, k2, k3, k5, hC, hbm⟩ := MC.ox.cls
  refine wpAny_Call_Name_kw (ld_glob I hg hm ?_ hd)  -- so
  refine PySem.W.callWith_K (h₀ := X.base) I.ok.mod.kin MC.ox.kC (thn (main pos pins s I) fun us s1 z => ?_) (star_cons hy) rfl
  obtain ⟨vs, H1, I1, r1, v, ev, q⟩ := z
  subst ev
  refine ⟨I1.kIn, ?_⟩
  cases r1 with
  | cons ru rn =>
    rename_i u us'
    cases rn
    show wpAny _ _ (call (.ref (ca c)) [u]) _ _ _
    obtain ⟨hp, gs, dr, tk, osS⟩ := s1
    obtain ⟨mb, hb1, hb2⟩ := I1.mod.blt
    have kk : ∀ (b : Addr) (o : Obj), hp.get? b = some o → ((hp.push (PySem.W.kdv_tup [u])).push (PySem.HandSPX.excO (ca c) hp.objs.size)).get? b = some o := fun b o z => Heap.get?_push_of_some _ (Heap.get?_push_of_some _ z)
    have hget : ((hp.push (PySem.W.kdv_tup [u])).push (PySem.HandSPX.excO (ca c) hp.objs.size)).get? (hp.objs.size + 1) = some (PySem.HandSPX.excO (ca c) hp.objs.size) := by heap_get
    have X1 : X.K.In hp := I1.kIn
    have nK : X.K.lookup (hp.objs.size + 1) = none := by
      cases z : X.K.lookup (hp.objs.size + 1) with
      | none => rfl
      | some o => exact absurd (Heap.lt_size (X1 _ _ z)) (Nat.not_lt.mpr (Nat.le_succ _))
    refine wpAny_call (PySem.HandSPX.call_own F.excBase_ValueError (fun Y => PySem.HandSPX.refsVE_contains Y cbm hbm) (X1 _ _ hC) (PySem.W.looks_findIn X1 MC.iC) (fun self => PySem.W.bind_fn X1 self MI.tyI) (by show 1 ≤ sizeLine; rw [sizeLine_eq]; omega) ?_)
    refine init_raw (mg := X.mg) (mb := mb) MI MC (X1.keeps kk) (I1.nolimit.keeps kk) ((I1.mod.glob.keeps I1.bk).keeps kk) ((hb1.keeps I1.bk).keeps kk) hsu ((hb2 _ (by decide)).trans (by decide +kernel)) ?_ nK hget (fun h5 tk5 dx t1 hk5 hdx dne he5 hn5 => ?_)
    · exact (hr.make (ca c) [u] []).depth
    · have hsz : hp.objs.size ≤ hp.objs.size + 1 := Nat.le_succ _
      have kp : ∀ (b : Addr) (o : Obj), hp.get? b = some o → h5.get? b = some o := fun b o z => hk5 b o (Nat.ne_of_lt (Nat.lt_of_lt_of_le (Heap.lt_size z) hsz)) (kk b o z)
      have hdx' : hp.objs.size ≤ dx := by
        have z := Heap.lt_size hget
        exact Nat.le_trans (Nat.le_trans hsz (Nat.le_of_lt z)) hdx
      obtain ⟨nd, na, I5⟩ := inv_exc (tk5 := tk5) I1 hsz hdx' dne kp he5 hn5 ru
      exact ⟨rfl, .ref (hp.objs.size + 1), _, I5, rfl, q _ _ na nd (Ne.symm dne)⟩
/-- a class of the table -/
theorem R.exc_inv {K : PySem.W.Frag} {G : Hp} {α : List Addr} {c : Nat} {p : PV} {v : V} (r : R K ca G α (.exc c p) v) : ∃ (a d : Addr) (x : V) (φ : Heap → Prop), v = .ref a ∧ G a = some (.ext φ) ∧ (∀ h, φ h → ∃ (oe : Obj) (vs : Array Value), h.get? a = some oe ∧ oe.cls = .ref (ca c) ∧ oe.dict = some d ∧ oe.data = .fields vs) ∧ G d = some (.xd [(sValue, x)]) ∧ R K ca G α p x := by
  cases r with
  | exc h1 h2 h3 h4 => exact ⟨_, _, _, _, rfl, h1, h2, h3, h4⟩
/-- e.value -/
theorem se_val {e : IE} {y : Expr} {pos : Pos} (hM : ∀ c, P.sub c c = true → ClsOk X.prog X.K (ca c)) (hb : plainBase y = true) (he : SE P cf n0 ca L X W e y) : SE P cf n0 ca L X W (.val e) (.Attribute y sValue pos) := fun Fr ρ S σ H G α Q C hE o => by
  simp only [evalE] at o
  have main : wE X y σ H fun v H1 => ∃ (a d : Addr) (c : Nat) (x : V) (φ : Heap → Prop), v = .ref a ∧ ClsOk X.prog X.K (ca c) ∧ H1 a = some (.ext φ) ∧ (∀ h, φ h → ∃ (oe : Obj) (vs : Array Value), h.get? a = some oe ∧ oe.cls = .ref (ca c) ∧ oe.dict = some d ∧ oe.data = .fields vs) ∧ H1 d = some (.xd [(sValue, x)]) ∧ Q x H1 := by
    refine he.p Fr ρ S σ H G α _ C hE (o.bind.mono (fun r S1 o1 v H1 G1 α1 l1 p1 C1 rv => ?_) fun _ _ _ z => z)
    split at o1
    · rename_i c q
      split at o1
      · rename_i hc
        obtain ⟨a, d, x, φ, rfl, h1, h2, h3, h4⟩ := R.exc_inv rv
        exact ⟨a, d, c, x, φ, rfl, hM c hc, C1.gh _ _ h1, h2, C1.gh _ _ h3, o1 x H1 G1 α1 l1 p1 C1 h4⟩
      · exact o1.elim
    · exact o1.elim
  intro pins s I
  refine attr_of (base_ok hb _) (thn (main pins s I) fun u s1 z => ?_)
  obtain ⟨v, H1, I1, rx, a, d, c, x, φ, rfl, M, h1, h2, h3, q⟩ := z
  obtain rfl : u = Value.ref a := rx  -- so
  have hx1 : ObjOk X.prog X.w H1 s1.heap a (.ext φ) := I1.hok a _ h1
  obtain ⟨oe, vs, e1, e2, e3, e4⟩ := h2 _ hx1.1
  have hx : ObjOk X.prog X.w H1 s1.heap d (.xd [(sValue, x)]) := I1.hok d _ h3
  obtain ⟨mA, hns, hr⟩ := hx
  obtain ⟨oD, ho, hl⟩ := lookIn_ns hns
  obtain ⟨u2, hu, ru⟩ := RelO.some_of (v := x) (o := mA sValue) (by have z := hr sValue; exact z)
  have J : PySem.W.InstAt s1.heap a oe (ca c) (some oD) := ⟨e1, e2, by unfold PySem.W.notCls; rw [e4] <;> rfl, by rw [e3]; exact ho⟩
  obtain ⟨fI, D, MI, MC⟩ := M.ini
  exact PySem.HandSPX.exc_get I1.kIn J M.xf.ga M.xf.gg M.xf.exC (PySem.W.findObj_own M.xf.hdC MC.no rfl (by rw [hl, hu])) (handed_of ru) ⟨x, H1, I1.tok _, ru, q⟩
/-- isinstance: what the class table must say -/
structure KitOk (P : Pg) (K : PySem.W.Frag) (ca : Nat → Addr) : Prop where
  sub : ∀ c d, P.sub c c = true → P.sub d d = true → PySem.W.kitOne K (.ref (ca c)) (.ref (ca d)) = some (P.sub c d)
  ver : ∀ c, P.sub c c = true → PySem.W.kitOne K (.ref (ca c)) (.type "ValueError") = some true
/-- isinstance(a, b) as a rule -/
def rIs (X : Cx) : List V → Hp → VK → Prop := fun xs H Q => ∀ (pins : List (Addr × Obj)) (s : Shared) (σ : L2.St) (us : List Value), L2.Inv X pins σ H s → Vals xs us → wpAny (model X.prog X.w) X.A (call (.builtin "isinstance") us) (EP X pins σ Q) X.xe s
theorem isR : CallR X (.builtin "isinstance") (rIs X) := fun pins s σ H xs us Q I r h => h pins s σ us I r
theorem is_exc {H G F : Hp} {α : List Addr} {S : Store} {Q : VK} {c : Nat} {p : PV} {v : V} {cv : V} {cu : Value} {b : Bool} (M : ClsOk X.prog X.K (ca c)) (C : Conc X.K ca L G F α S H) (r : R X.K ca G α (.exc c p) v) (hcv : ∀ u, RelV cv u → u = cu)
    (e : PySem.W.kitOne X.K (.ref (ca c)) cu = some b) (q : Q (.bl b) H) : rIs X [v, cv] H Q := by
  intro pins s σ us I rv
  obtain ⟨a, d, x, φ, rfl, h1, h2, h3, h4⟩ := R.exc_inv r
  cases rv with
  | cons ra rr =>
    cases rr with
    | cons rt rr =>
      cases rr
      cases ra
      cases hcv _ rt
      have hx1 : ObjOk X.prog X.w H s.heap a (.ext φ) := I.hok a _ (C.gh _ _ h1)
      obtain ⟨oe, vs, e1, e2, e3, e4⟩ := h2 _ hx1.1
      have hx : ObjOk X.prog X.w H s.heap d (.xd [(sValue, x)]) := I.hok d _ (C.gh _ _ h3)
      obtain ⟨mA, hns, hr⟩ := hx
      obtain ⟨oD, ho, hl⟩ := lookIn_ns hns
      have J : PySem.W.InstAt s.heap a oe (ca c) (some oD) := ⟨e1, e2, by unfold PySem.W.notCls; rw [e4] <;> rfl, by rw [e3]; exact ho⟩
      exact PySem.W.kia_one (PySem.W.ip_kitx M.xc) I.kIn J e (fun z => nomatch z) fun tk => ⟨.bl b, H, I.tok tk, rfl, q⟩
theorem is_data {H G F : Hp} {α : List Addr} {S : Store} {Q : VK} {p : PV} {v : V} {t : Ty} {nm : String} {d : PyData} {b : Bool} (C : Conc X.K ca L G F α S H) (r : R X.K ca G α p v) (hd : dataOf S p = some d) (ht : tyD t d = some b) (hn : (t = .int ∧ nm = "int") ∨ (t = .bool ∧ nm = "bool") ∨ (t = .tuple ∧ nm = "tuple") ∨ (t = .list ∧ nm = "list") ∨ (t = .str ∧ nm = "str"))
    (q : Q (.bl b) H) : rIs X [v, .ty nm] H Q := by
  intro pins s σ us I rv
  cases rv with
  | cons ra rr =>
    cases rr with
    | cons rt rr =>
      cases rr
      rename_i u u2
      obtain rfl : u2 = Value.type nm := rt
      obtain ⟨as, rd⟩ := r.data C hd X pins σ s u rfl I ra
      have fin : ∀ b' : Bool, b' = b → ∀ tk, s.toks ≤ tk → EP X pins σ Q (.bool b') { s with toks := tk } := fun b' e tk _ => ⟨.bl b, H, I.tok tk, by rw [e]; rfl, q⟩
      rcases hn with ⟨rfl, rfl⟩ | ⟨rfl, rfl⟩ | ⟨rfl, rfl⟩ | ⟨rfl, rfl⟩ | ⟨rfl, rfl⟩
      · exact PySem.W.isinstance_int_data rd (fin _ (by cases d <;> simp [tyD, PyData.isInt] at ht ⊢ <;> exact ht))
      · exact PySem.W.isinstance_bool_data rd (fin _ (by cases d <;> simp [tyD, PyData.isBool] at ht ⊢ <;> exact ht))
      · exact PySem.W.isinstance_tuple_data rd (fin _ (by cases d <;> simp [tyD, PyData.isTuple] at ht ⊢ <;> exact ht))
      · exact PySem.W.isinstance_list_data rd (fin _ (by cases d <;> simp [tyD, PyData.isList] at ht ⊢ <;> exact ht))
      · exact PySem.W.isinstance_str_data rd (fin _ (by cases d <;> simp [tyD, PyData.isStr] at ht ⊢ <;> exact ht))
theorem se_isi {a : IE} {t : Ty} {y : Expr} {x z : Str} {p p2 pos : Pos} (hM : ∀ c, P.sub c c = true → ClsOk X.prog X.K (ca c)) (hK : KitOk P X.K ca) (hcl : ∀ c x, T.clN c = some x → X.mg x = some (.ref (ca c))) (hblt : ∀ b ∈ bltNames, X.mg b = none)
    (hx : x = Str.ofString "isinstance") (hg : Gl X x) (hz : Gl X z) (hzd : (z == ("__debug__" : Str)) = false) (hy : starless y = true) (ht : tyN T t = some z) (ha : SE P cf n0 ca L X W a y) :
    SE P cf n0 ca L X W (.isi a t) (.Call (.Name x p) [y, .Name z p2] [] pos) := fun Fr ρ S σ H G α Q C hE o => by
  subst hx
  simp only [evalE] at o
  have go : ∀ cv : V, PE X (.Name z p2) (tC cv) → (∀ (v : V) (H1 G1 : Hp) (α1 : List Addr) (S1 : Store) (q : PV) (b : Bool), Conc X.K ca L G1 Fr α1 S1 H1 → R X.K ca G1 α1 q v → evIsi P.sub S1 t q = some b → Q (.bl b) H1 → rIs X [v, cv] H1 Q) → wE X (.Call (.Name (Str.ofString "isinstance") p) [y, .Name z p2] [] pos) σ H Q := fun cv pz gg => by
    refine ofE (pe_callB isR hg (hblt _ (by decide)) (by decide +kernel) (pa_cons (pE y) (pa_cons pz pa_nil) (star_cons hy)) (by decide) (by decide) (star_cons hy) rfl) ?_
    refine ha.p Fr ρ S σ H G α _ C hE (o.bind.mono (fun r S1 o1 v H1 G1 α1 l1 p1 C1 rv => ?_) fun _ _ _ z => z)
    split at o1
    · rename_i b e
      exact gg v H1 G1 α1 S1 r.fz b C1 rv e (o1 (.bl b) H1 G1 α1 l1 p1 C1 (.bl b))
    · exact o1.elim
  have dat : ∀ nm : String, (t = .int ∧ nm = "int") ∨ (t = .bool ∧ nm = "bool") ∨ (t = .tuple ∧ nm = "tuple") ∨ (t = .list ∧ nm = "list") ∨ (t = .str ∧ nm = "str") → ∀ (v : V) (H1 G1 : Hp) (α1 : List Addr) (S1 : Store) (q : PV) (b : Bool), Conc X.K ca L G1 Fr α1 S1 H1 → R X.K ca G1 α1 q v → evIsi P.sub S1 t q = some b → Q (.bl b) H1 → rIs X [v, .ty nm] H1 Q := fun nm hn v H1 G1 α1 S1 q b C1 rv e k => by
    have ed : ∃ d, dataOf S1 q = some d ∧ tyD t d = some b := by
      unfold evIsi at e
      split at e
      · exfalso
        split at e
        · rcases hn with ⟨rfl, _⟩ | ⟨rfl, _⟩ | ⟨rfl, _⟩ | ⟨rfl, _⟩ | ⟨rfl, _⟩ <;> cases e
        · cases e
      · split at e
        · exact ⟨_, by assumption, e⟩
        · cases e
    obtain ⟨d, e1, e2⟩ := ed
    exact is_data C1 rv e1 e2 hn k
  have exc : ∀ (cv : V) (cu : Value), (∀ u, RelV cv u → u = cu) → (∀ c b, P.sub c c = true → evIsi P.sub [] t (.exc c .non) = some b → PySem.W.kitOne X.K (.ref (ca c)) cu = some b) → (t = .verr ∨ ∃ d, t = .cls d) → ∀ (v : V) (H1 G1 : Hp) (α1 : List Addr) (S1 : Store) (q : PV) (b : Bool), Conc X.K ca L G1 Fr α1 S1 H1 → R X.K ca G1 α1 q v → evIsi P.sub S1 t q = some b → Q (.bl b) H1 → rIs X [v, cv] H1 Q := fun cv cu h1 h2 h3 v H1 G1 α1 S1 q b C1 rv e k => by
    cases q with
    | exc c q =>
      have hc : P.sub c c = true := by
        unfold evIsi at e
        simp only at e
        split at e
        · assumption
        · cases e
      exact is_exc (hM c hc) C1 rv h1 (h2 c b hc e) k
    | _ =>
      exfalso
      unfold evIsi at e
      simp only at e
      split at e
      · rename_i d _
        rcases h3 with rfl | ⟨d', rfl⟩ <;> cases d <;> cases e
      · cases e
  cases t with
  | int => obtain rfl : Str.ofString "int" = z := Option.some.inj ht; exact go _ (pe_bltn hz (hblt _ (by decide)) (by decide +kernel) (v := .ty "int") (u := .type "int") rfl (by decide) hzd) (dat _ (by simp))
  | bool => obtain rfl : Str.ofString "bool" = z := Option.some.inj ht; exact go _ (pe_bltn hz (hblt _ (by decide)) (by decide +kernel) (v := .ty "bool") (u := .type "bool") rfl (by decide) hzd) (dat _ (by simp))
  | tuple => obtain rfl : Str.ofString "tuple" = z := Option.some.inj ht; exact go _ (pe_bltn hz (hblt _ (by decide)) (by decide +kernel) (v := .ty "tuple") (u := .type "tuple") rfl (by decide) hzd) (dat _ (by simp))
  | list => obtain rfl : Str.ofString "list" = z := Option.some.inj ht; exact go _ (pe_bltn hz (hblt _ (by decide)) (by decide +kernel) (v := .ty "list") (u := .type "list") rfl (by decide) hzd) (dat _ (by simp))
  | str => obtain rfl : Str.ofString "str" = z := Option.some.inj ht; exact go _ (pe_bltn hz (hblt _ (by decide)) (by decide +kernel) (v := .ty "str") (u := .type "str") rfl (by decide) hzd) (dat _ (by simp))
  | verr =>
    obtain rfl : Str.ofString "ValueError" = z := Option.some.inj ht
    refine go _ (pe_bltn hz (hblt _ (by decide)) (by decide +kernel) (v := .ty "ValueError") (u := .type "ValueError") rfl (by decide) hzd) (exc _ (.type "ValueError") (fun u r => r) (fun c b hc e => ?_) (.inl rfl))
    simp only [evIsi, hc, if_true, Option.some.injEq] at e
    rw [← e]
    exact hK.ver c hc
  | cls d =>
    refine go _ (pe_glob (v := V.ref (ca d)) hz (hcl d z ht) rfl hzd) (exc _ (.ref (ca d)) (fun u r => r) (fun c b hc e => ?_) (.inr ⟨d, rfl⟩))
    simp only [evIsi, hc, if_true] at e
    split at e
    · rename_i hd
      cases e
      exact hK.sub c d hc hd
    · cases e
end
/-- the context, with the classes -/
structure XD (P : Pg) (T : Tab) (w n : Nat) (ca : Nat → Addr) (N : List Str) (k : Nat) (X : Cx) : Prop extends XC P T w n ca N k X where
  one : 1 ≤ k
  cok : ∀ c, P.sub c c = true → ClsOk X.prog X.K (ca c)
  kit : KitOk P X.K ca
  clm : ∀ c x, T.clN c = some x → X.mg x = some (.ref (ca c)) ∧ P.sub c c = true
theorem XD.blk {P : Pg} {T : Tab} {w n : Nat} {ca : Nat → Addr} {N : List Str} {k : Nat} {X : Cx} (h : XD P T w n ca N k X) {s : Shared} {H : Hp} {sc : Scope} {C : Addr} {cl : List (Str × Addr)} {fp : List Addr} :
    XD P T w n ca N k (X.blk s H sc (compEnvC sc cl C X.env) fp) := ⟨h.toXC.blk, h.one, h.cok, h.kit, h.clm⟩
end Ip

/-! IpSnd11: a term that matches is what the code does: all together. -/
namespace Ip
open PySem PySem.Spec PyProof.Rows L2  -- so
section
variable (P : Pg) (n0 : Nat) (ca : Nat → Addr) (L : Nat → Prop) (T : Tab) (N : List Str) (w n k : Nat)
def SndG (g : Gx) : Prop := ∀ (X : Cx) (W : WX) (nm : Names) (e : IE) (x : Expr), XD P T w n ca N k X → Takes X W → ScOk X nm →
  (g .e nm e x = true → SE P (callF P w n) n0 ca L X W e x) ∧ (g .t nm e x = true → ST P (callF P w n) n0 ca L X W e x) ∧ (g .i nm e x = true → ∀ tg, SI P (callF P w n) n0 ca L X W e tg x)
end
section
variable {P : Pg} {n0 : Nat} {ca : Nat → Addr} {L : Nat → Prop} {X : Cx} {W : WX} {T : Tab} {N : List Str} {w n k : Nat} {nm : Names} {g : Gx}
theorem okEs_ok (G : SndG P n0 ca L T N w n k g) (C : XD P T w n ca N k X) (tk : Takes X W) (sc : ScOk X nm) : ∀ {es : List IE} {xs : List Expr}, okEs g nm es xs = true → SEs P (callF P w n) n0 ca L X W es xs ∧ xs.all starless = true ∧ es.length = xs.length
  | [], [], _ => ⟨ses_nil, rfl, rfl⟩
  | e :: es, x :: xs, h => by
    simp only [okEs, Bool.and_eq_true] at h
    obtain ⟨h1, h2, h3⟩ := okEs_ok G C tk sc h.2
    refine ⟨ses_cons h.1.2 ((G X W nm e x C tk sc).1 h.1.1).p h1, ?_, congrArg (· + 1) h3⟩
    rw [List.all_cons, h.1.2, h2]
    rfl
  | [], _ :: _, h | _ :: _, [], h => by simp [okEs] at h
theorem okO_ok (G : SndG P n0 ca L T N w n k g) (C : XD P T w n ca N k X) (tk : Takes X W) (sc : ScOk X nm) : ∀ {o : Option IE} {l : Option Expr}, okO g nm o l = true → ∃ t, PO X l t ∧ SO' P (callF P w n) n0 ca L X W o l t
  | none, none, _ => ⟨_, po_none, so_none⟩
  | some e, some x, h => ⟨_, po_some (pE x), so_some ((G X W nm e x C tk sc).1 h)⟩
  | none, some _, h | some _, none, h => by simp [okO] at h
theorem takes_blk {Y : Cx} : Takes Y (fun _ _ _ _ => False) := fun u s' ⟨_, _, _, _, _, _, _, _, _, _, _, _, _, _, _, _, w⟩ => w.elim
theorem okCd_ok (G : SndG P n0 ca L T N w n k g) (C : XD P T w n ca N k X) {sc : Scope} : ∀ {c : Option IE} {xs : List Expr}, okCd g sc.names c xs = true →
    SC P (callF P w n) n0 ca L X sc c xs ∧ ∀ (s : Shared) (H0 : Hp) (C : Addr) (cl : List (Str × Addr)) (fp : List Addr), PTs (X.blk s H0 sc (compEnvC sc cl C X.env) fp) xs (tIfs X sc xs)
  | none, [], _ => ⟨fun F ρ S σ H G' α Q C hE o => o H G' α (Le.refl _) (Pre.refl _) C, fun _ _ _ _ _ => pts_nil⟩
  | some e, [x], h => by
    refine ⟨fun F ρ S σ H G' α Q C1 hE o => ?_, fun s H0 C cl fp => pts_one ⟨fun pins s1 σ H Q I q => q s H0 C cl fp pins s1 I⟩⟩
    intro s H0 Cc cl fp
    have z := (G (X.blk s H0 sc (compEnvC sc cl Cc X.env) fp) (fun _ _ _ _ => False) sc.names e x C.blk takes_blk ScOk.blk).2.1 h
    refine z F ρ S σ H G' α Q C1 hE ?_
    have e1 : evalT P (callF P w n) n0 e ρ S = evalC P (callF P w n) n0 (some e) ρ S := rfl
    rw [e1]
    exact o.mono (fun _ _ q => q) fun _ _ _ q => q.elim
  | none, _ :: _, h | some _, [], h | some _, _ :: _ :: _, h => by simp [okCd] at h
theorem ownOf_snd {own : List Nat} : (ownOf N own).map (·.2) = own := by
  unfold ownOf
  rw [List.map_map]
  exact List.map_id' _
theorem okBlk_ok (sc : ScOk X nm) (hN : X.N = N) {s2 : Scope} {own : List (Str × Nat)} (h : okBlk N nm s2 own = true) : BlkOk X.N X.env.scope s2 own := by
  unfold okBlk at h
  simp only [Bool.and_eq_true, List.all_eq_true, decide_eq_true_eq] at h  -- so
  obtain ⟨⟨⟨h1, h2⟩, h3⟩, h4⟩ := h  -- so
  subst hN
  refine ⟨?_, h2, h3, fun y hy e => ?_, fun y hy e => ?_⟩  -- so
  · split at h1
    · assumption
    · cases h1
  · have := h4 y hy
    rw [e] at this
    exact sc.fre _ this
  · have := h4 y hy
    rcases e with e | e <;> rw [e] at this <;> simpa using this
/-- a comprehension's parts -/
theorem okCp_ok (G : SndG P n0 ca L T N w n k g) (C : XD P T w n ca N k X) (tk : Takes X W) (sc : ScOk X nm) {own : List Nat} {tg : Tgt} {it elt : IE} {cond : Option IE} {ex t i : Expr} {ifs : List Expr} {s2 : Scope}
    (h1 : okBlk N nm s2 (ownOf N own) = true) (h2 : tg.ix.all (fun i => own.contains i) = true) (h3 : g .i nm it i = true) (h4 : okT N s2.names tg t = true) (h5 : okCd g s2.names cond ifs = true) (h6 : g .e s2.names elt ex = true) :
    BlkOk X.N X.env.scope s2 (ownOf N own) ∧ SI P (callF P w n) n0 ca L X W it t i ∧ (∀ (s : Shared) (H0 : Hp) (C : Addr) (cl : List (Str × Addr)) (fp : List Addr), SG (X.blk s H0 s2 (compEnvC s2 cl C X.env) fp) ca tg t) ∧ SC P (callF P w n) n0 ca L X s2 cond ifs ∧
    (∀ (s : Shared) (H0 : Hp) (C : Addr) (cl : List (Str × Addr)) (fp : List Addr), PTs (X.blk s H0 s2 (compEnvC s2 cl C X.env) fp) ifs (tIfs X s2 ifs)) ∧
    (∀ (s : Shared) (H0 : Hp) (C : Addr) (cl : List (Str × Addr)) (fp : List Addr), SE P (callF P w n) n0 ca L (X.blk s H0 s2 (compEnvC s2 cl C X.env) fp) (fun _ _ _ _ => False) elt ex) ∧ (∀ i ∈ tg.ix, i ∈ own) := by
  obtain ⟨c1, c2⟩ := okCd_ok G C h5
  refine ⟨okBlk_ok sc C.N h1, (G X W nm it i C tk sc).2.2 h3 t, fun s H0 Cc cl fp => ?_, c1, c2, fun s H0 Cc cl fp => ?_, fun i hi => ?_⟩
  · exact sg_ok ScOk.blk C.blk.N C.blk.nd C.blk.calm tg t h4
  · exact (G _ _ _ _ _ C.blk takes_blk ScOk.blk).1 h6
  · have := List.all_eq_true.mp h2 i hi
    simpa using this
theorem okE1_ok (hL : ∀ m, L m → m ≤ n0) (G : SndG P n0 ca L T N w n k g) (C : XD P T w n ca N k X) (tk : Takes X W) (sc : ScOk X nm) (e : IE) (x : Expr) (h : okE1 T N g nm e x = true) : SE P (callF P w n) n0 ca L X W e x := by
  have Ge : ∀ {e x}, g .e nm e x = true → SE P (callF P w n) n0 ca L X W e x := fun {e x} => (G X W nm e x C tk sc).1
  have Gt : ∀ {e x}, g .t nm e x = true → ST P (callF P w n) n0 ca L X W e x := fun {e x} => (G X W nm e x C tk sc).2.1
  have Gs : ∀ {es xs}, okEs g nm es xs = true → SEs P (callF P w n) n0 ca L X W es xs ∧ xs.all starless = true ∧ es.length = xs.length := fun {es xs} => okEs_ok G C tk sc
  cases e with
  | cst p =>
    simp only [okE1] at h
    split at h
    · exact se_cst_non
    · rw [beq_iff_eq] at h
      subst h
      exact se_cst_bl
    · rw [beq_iff_eq] at h
      subst h
      exact se_cst_int
    · rw [beq_iff_eq] at h
      subst h
      exact se_cst_str
    · cases h
  | var i =>
    simp only [okE1] at h
    split at h
    · simp only [Bool.and_eq_true, decide_eq_true_eq, Bool.not_eq_true'] at h
      exact se_var (by rw [C.N]; exact h.1.1.1) (sc.vis _ h.1.1.2) h.1.2 h.2
    · cases h
  | gl i =>
    simp only [okE1] at h
    split at h
    · simp only [Bool.and_eq_true, decide_eq_true_eq] at h  -- so
      obtain ⟨v, t, h1, h2⟩ := C.gls _ _ h.1
      obtain ⟨h3, h4⟩ := sc.glo _ h.2
      exact se_gl h1 h2 h3 h4
    · cases h
  | tup es =>
    simp only [okE1] at h
    split at h
    · simp only [Bool.and_eq_true, decide_eq_true_eq] at h  -- so
      exact se_tup (Gs h.1).1 h.2 fun ρ S ps S' => evalEs_length
    · cases h
  | lst es =>
    simp only [okE1] at h
    split at h
    · simp only [Bool.and_eq_true, decide_eq_true_eq] at h  -- so
      exact se_lst (Gs h.1).1 h.2 fun ρ S ps S' => evalEs_length
    · cases h
  | bin o a b =>
    simp only [okE1] at h
    split at h
    · simp only [Bool.and_eq_true] at h
      exact se_bin h.1.1 (Ge h.1.2) (Ge h.2)
    · cases h
  | neg a =>
    simp only [okE1] at h
    split at h
    · exact se_neg (Ge h)
    · cases h
  | not a =>
    simp only [okE1] at h
    split at h
    · exact se_not (Ge h)
    · cases h
  | and a b =>
    simp only [okE1] at h
    split at h
    · simp only [Bool.and_eq_true] at h
      exact se_and (Ge h.1) (se_one (Ge h.2))
    · simp only [Bool.and_eq_true] at h
      exact se_and (Ge h.1) (Ge h.2)
    · cases h
  | or a b =>
    simp only [okE1] at h
    split at h
    · simp only [Bool.and_eq_true] at h
      exact se_or (Ge h.1) (se_one (Ge h.2))
    · simp only [Bool.and_eq_true] at h
      exact se_or (Ge h.1) (Ge h.2)
    · cases h
  | cmp o a b =>
    simp only [okE1] at h
    split at h
    · simp only [Bool.and_eq_true, Bool.not_eq_true'] at h
      exact se_cmp C.room h.1.1.1 h.2 (Ge h.1.1.2) (Ge h.1.2)
    · cases h
  | chain o o' a b c =>
    simp only [okE1] at h
    split at h
    · simp only [Bool.and_eq_true, Bool.not_eq_true'] at h
      exact se_chain C.room h.1.1.1.1.1 h.1.1.1.1.2 h.2 (Ge h.1.1.1.2) (Ge h.1.1.2) (Ge h.1.2)
    · cases h
  | ite c a b =>
    simp only [okE1] at h
    split at h
    · simp only [Bool.and_eq_true] at h
      exact se_ite (Gt h.1.1) (Ge h.1.2) (Ge h.2)
    · cases h
  | idx a b =>
    simp only [okE1] at h
    split at h
    · simp only [Bool.and_eq_true] at h
      exact se_idx h.2 (Ge h.1.1) (Ge h.1.2)
    · cases h
  | sl a lo hi =>
    simp only [okE1] at h
    split at h
    · simp only [Bool.and_eq_true] at h
      obtain ⟨t1, p1, q1⟩ := okO_ok G C tk sc h.1.2
      obtain ⟨t2, p2, q2⟩ := okO_ok G C tk sc h.2
      exact se_sl p1 p2 (Ge h.1.1) q1 q2
    · cases h
  | call f es =>
    simp only [okE1] at h
    split at h
    · simp only [Bool.and_eq_true, decide_eq_true_eq] at h  -- so
      obtain ⟨a, fd, ps, h1, h2, h3, h4, h5⟩ := C.fns _ _ h.1.1
      obtain ⟨g1, g2⟩ := sc.glo _ h.1.2
      obtain ⟨s1, s2, s3⟩ := Gs h.2
      exact se_call h5 rfl h4 C.gd C.room h3 tk g1 h1 h2 g2 s2 s3 s1
    · cases h
  | mk c e =>
    simp only [okE1] at h
    split at h
    · simp only [Bool.and_eq_true, decide_eq_true_eq] at h  -- so
      obtain ⟨g1, g2⟩ := sc.glo _ h.1.1.2
      obtain ⟨m1, m2⟩ := C.clm _ _ h.1.1.1
      have r1 : Room ((k - 1) + 1) X.A := C.room.mono (by have := C.one; omega)
      exact se_mk (C.cok c m2) r1 (C.blt _ (by decide)) g1 m1 g2 h.2 (Ge h.1.2)
    · cases h
  | bi b es =>
    simp only [okE1] at h
    split at h
    · simp only [Bool.and_eq_true, decide_eq_true_eq] at h  -- so
      obtain ⟨g1, g2⟩ := sc.glo _ h.1.2
      obtain ⟨s1, s2, s3⟩ := Gs h.2
      exact se_bi h.1.1 C.calm C.gd C.room g1 C.blt s2 s3 s1
    · cases h
  | isi a t =>
    simp only [okE1] at h
    split at h
    · simp only [Bool.and_eq_true, decide_eq_true_eq] at h  -- so
      obtain ⟨g1, g2⟩ := sc.glo _ h.1.1.1.1.2
      obtain ⟨g3, g4⟩ := sc.glo _ h.1.1.1.2
      exact se_isi C.cok C.kit (fun c x q => (C.clm c x q).1) C.blt h.1.1.1.1.1 g1 g3 g4 h.1.2 h.2 (Ge h.1.1.2)
    · cases h
  | meth m o es =>
    simp only [okE1] at h
    split at h
    · simp only [Bool.and_eq_true, decide_eq_true_eq] at h  -- so
      obtain ⟨s1, s2, s3⟩ := Gs h.1.1.1.1.2
      rw [h.1.1.1.1.1.1]
      exact se_meth hL h.1.1.1.2 h.1.1.2 s2 s3 h.2 h.1.2 (Ge h.1.1.1.1.1.2) s1
    · cases h
  | val o =>
    simp only [okE1] at h
    split at h
    · simp only [Bool.and_eq_true, decide_eq_true_eq] at h  -- so
      rw [h.1.1]
      exact se_val C.cok h.2 (Ge h.1.2)
    · cases h
  | alloc e =>
    simp only [okE1] at h
    exact se_alloc (Ge h)
  | dct0 =>
    simp only [okE1] at h
    split at h
    · exact se_dct0
    · cases h
  | dct1 a e =>
    simp only [okE1] at h
    split at h
    · simp only [Bool.and_eq_true] at h
      exact se_dct1 (Ge h.1) (Ge h.2)
    · cases h
  | comp own tg it cond elt =>
    simp only [okE1] at h
    split at h
    · simp only [Bool.and_eq_true, decide_eq_true_eq] at h  -- so
      obtain ⟨⟨⟨⟨⟨⟨⟨rfl, h1⟩, h2⟩, h3⟩, h4⟩, h5⟩, h6⟩, h7⟩ := h
      obtain ⟨b1, b2, b3, b4, b5, b6, b7⟩ := okCp_ok G C tk sc h1 h2 h3 h5 h6 h7
      exact se_comp C.calm C.nd h4 b1 ownOf_snd b2 b3 b4 b5 b6 b7
    · cases h
  | rng es => cases h
theorem okT1_ok (G : SndG P n0 ca L T N w n k g) (C : XD P T w n ca N k X) (tk : Takes X W) (sc : ScOk X nm) (e : IE) (x : Expr) (h : okT1 g nm e x = true) : ST P (callF P w n) n0 ca L X W e x := by
  have Ge : ∀ {e x}, g .e nm e x = true → SE P (callF P w n) n0 ca L X W e x := fun {e x} => (G X W nm e x C tk sc).1
  have Gt : ∀ {e x}, g .t nm e x = true → ST P (callF P w n) n0 ca L X W e x := fun {e x} => (G X W nm e x C tk sc).2.1
  cases e with
  | not a =>
    simp only [okT1] at h
    split at h
    · exact st_not (Gt h)
    · cases h
  | and a b =>
    simp only [okT1] at h
    split at h
    · simp only [Bool.and_eq_true] at h
      exact st_and (Gt h.1) (st_one (Gt h.2))
    · simp only [Bool.and_eq_true] at h
      exact st_and (Gt h.1) (Gt h.2)
    · cases h
  | or a b =>
    simp only [okT1] at h
    split at h
    · simp only [Bool.and_eq_true] at h
      exact st_or (Gt h.1) (st_one (Gt h.2))
    · simp only [Bool.and_eq_true] at h
      exact st_or (Gt h.1) (Gt h.2)
    · cases h
  | cmp o a b =>
    simp only [okT1] at h
    split at h
    · simp only [Bool.and_eq_true, Bool.not_eq_true'] at h
      exact st_cmp C.room h.1.1.1 h.2 (Ge h.1.1.2) (Ge h.1.2)
    · cases h
  | chain o o' a b c =>
    simp only [okT1] at h
    split at h
    · simp only [Bool.and_eq_true, Bool.not_eq_true'] at h
      exact st_chain C.room h.1.1.1.1.1 h.1.1.1.1.2 h.2 (Ge h.1.1.1.2) (Ge h.1.1.2) (Ge h.1.2)
    · cases h
  | _ =>
    simp only [okT1, Bool.and_eq_true] at h
    exact st_val (Ge h.1) h.2
theorem okI1_ok (G : SndG P n0 ca L T N w n k g) (C : XD P T w n ca N k X) (tk : Takes X W) (sc : ScOk X nm) (e : IE) (x tg : Expr) (h : okI1 g nm e x = true) : SI P (callF P w n) n0 ca L X W e tg x := by
  cases e with
  | rng es =>
    simp only [okI1] at h
    split at h
    · simp only [Bool.and_eq_true, decide_eq_true_eq] at h  -- so
      obtain ⟨g1, g2⟩ := sc.glo _ h.1.1.2
      obtain ⟨s1, s2, s3⟩ := okEs_ok G C tk sc h.1.2
      have e1 := h.1.1.1
      subst e1
      exact si_rng g1 (C.blt _ (by decide)) s2 s3 h.2 s1
    · cases h
  | _ => exact si_seq ((G X W nm _ x C tk sc).1 (by simpa only [okI1] using h))
theorem okX_ok (hL : ∀ m, L m → m ≤ n0) : ∀ f : Nat, SndG P n0 ca L T N w n k (okX T N f)
  | 0, _, _, _, _, _, _, _, _ => ⟨fun h => (by cases h), fun h => (by cases h), fun h => (by cases h)⟩
  | f + 1, X, W, nm, e, x, C, tk, sc => ⟨fun h => okE1_ok hL (okX_ok hL f) C tk sc e x h, fun h => okT1_ok (okX_ok hL f) C tk sc e x h, fun h tg => okI1_ok (okX_ok hL f) C tk sc e x tg h⟩
/-! ### statements -/
theorem okSs_ok {hh : IS → Stmt → Bool} (Hh : ∀ s x, hh s x = true → SS P (callF P w n) n0 w ca L X W s x) : ∀ {ss : List IS} {xs : List Stmt}, okSs hh ss xs = true → SSs P (callF P w n) n0 w ca L X W ss xs
  | [], [], _ => sss_nil
  | s :: ss, x :: xs, h => by
    simp only [okSs, Bool.and_eq_true] at h
    exact sss_cons (Hh s x h.1) (okSs_ok Hh h.2)
  | [], _ :: _, h | _ :: _, [], h => by simp [okSs] at h
theorem sw_none {ts : List Expr} {k2 : Nat} {tp : Pos} {y : Expr} {env : PySem.Env} (h : isTup y = false) : swappedStores [.Tuple ts k2 tp] y env = pure none := by
  cases y <;> first | rfl | cases h
theorem okS1_ok {hh : IS → Stmt → Bool} (hL : ∀ m, L m → m ≤ n0) (G : SndG P n0 ca L T N w n k g) (C : XD P T w n ca N k X) (tk : Takes X W) (sc : ScOk X nm) (po : PassesOwn (model X.prog X.w) X.A X.env X.xe) (hk : X.env.scope.kind = .function)
    (Hh : ∀ s x, hh s x = true → SS P (callF P w n) n0 w ca L X W s x) (s : IS) (x : Stmt) (h : okS1 N g nm hh s x = true) : SS P (callF P w n) n0 w ca L X W s x := by
  have Ge : ∀ {e x}, g .e nm e x = true → SE P (callF P w n) n0 ca L X W e x := fun {e x} => (G X W nm e x C tk sc).1
  have Gt : ∀ {e x}, g .t nm e x = true → ST P (callF P w n) n0 ca L X W e x := fun {e x} => (G X W nm e x C tk sc).2.1
  have Gi : ∀ {e x tg}, g .i nm e x = true → SI P (callF P w n) n0 ca L X W e tg x := fun {e x tg} q => (G X W nm e x C tk sc).2.2 q tg
  cases s with
  | doc =>
    simp only [okS1] at h
    split at h
    · exact ss_doc
    · cases h
  | asg i e =>
    simp only [okS1] at h
    split at h
    · simp only [Bool.and_eq_true, Bool.or_eq_true, decide_eq_true_eq] at h
      obtain ⟨h0, h | h⟩ := h
      · exact ss_asg C.nd (by rw [C.N]; exact h0) (sc.sto _ h.1.2) h.1.1 (Ge h.2)
      · split at h
        · simp only [Bool.and_eq_true, decide_eq_true_eq, Bool.not_eq_true'] at h
          obtain ⟨⟨⟨⟨⟨⟨⟨⟨⟨⟨q1, q2⟩, q3⟩, rfl⟩, h1⟩, h2⟩, h3⟩, h4⟩, h5⟩, h6⟩, h7⟩ := h
          obtain ⟨b1, b2, b3, b4, b5, b6, b7⟩ := okCp_ok G C tk sc h1 h2 h3 h5 h6 h7
          exact ss_asgC C.calm C.nd (by rw [C.N]; exact h0) (sc.lcl _ q1) hk q2 q3 h4 b1 ownOf_snd b2 b3 b4 b5 b6 b7
        · cases h
    · cases h
  | asgT tg e =>
    simp only [okS1] at h
    split at h
    · simp only [Bool.and_eq_true, Bool.not_eq_true'] at h
      exact ss_asgT h.1.2 (sw_none h.2) rfl (sg_ok sc C.N C.nd C.calm _ _ h.1.1.1) (Ge h.1.1.2)
    · cases h
  | par i j a b =>
    simp only [okS1] at h
    split at h
    · simp only [Bool.and_eq_true, decide_eq_true_eq, Bool.not_eq_true', beq_eq_false_iff_ne] at h
      obtain ⟨⟨⟨⟨⟨⟨⟨⟨⟨⟨⟨⟨h1, h2⟩, h3⟩, h4⟩, h5⟩, h6⟩, h7⟩, h8⟩, h9⟩, h10⟩, h11⟩, h12⟩, h13⟩ := h
      exact ss_par C.nd C.calm (by rw [C.N]; exact h1) (by rw [C.N]; exact h2) h3 (sc.lcl _ h4) (sc.lcl _ h5) h6 h7 h8 h9 h10 h11 hk (Ge h12) (Ge h13)
    · cases h
  | sub o i e =>
    simp only [okS1] at h
    split at h
    · simp only [Bool.and_eq_true] at h
      exact ss_sub hL h.1.2 h.2 (Ge h.1.1.1.2) (Ge h.1.1.2) (Ge h.1.1.1.1)
    · cases h
  | ex e =>
    simp only [okS1] at h
    split at h
    · simp only [Bool.and_eq_true] at h
      exact ss_ex h.2 (Ge h.1)
    · cases h
  | ret e =>
    simp only [okS1] at h
    split at h
    · exact ss_ret (Ge h)
    · cases h
  | ifs c a b =>
    simp only [okS1] at h
    split at h
    · simp only [Bool.and_eq_true] at h
      exact ss_ifs (Gt h.1.1) (okSs_ok Hh h.1.2) (okSs_ok Hh h.2)
    · cases h
  | for_ tg it b =>
    simp only [okS1] at h
    split at h
    · simp only [Bool.and_eq_true] at h
      exact ss_for po C.calm h.1.2 (Gi h.1.1.2) (sg_ok sc C.N C.nd C.calm _ _ h.1.1.1) (okSs_ok Hh h.2)
    · cases h
  | while_ c b =>
    simp only [okS1] at h
    split at h
    · simp only [Bool.and_eq_true] at h
      exact ss_while po (Gt h.1) (okSs_ok Hh h.2)
    · cases h
  | rs c e => cases h
  | tr b c i hd => cases h
theorem okS_ok {f : Nat} (hL : ∀ m, L m → m ≤ n0) (C : XD P T w n ca N k X) (tk : Takes X W) (sc : ScOk X nm) (po : PassesOwn (model X.prog X.w) X.A X.env X.xe) (hk : X.env.scope.kind = .function) : ∀ (m : Nat) (s : IS) (x : Stmt), okS T N f nm m s x = true → SS P (callF P w n) n0 w ca L X W s x
  | 0, _, _, h => by cases h
  | m + 1, s, x, h => okS1_ok hL (okX_ok hL f) C tk sc po hk (okS_ok hL C tk sc po hk m) s x h
end
end Ip

/-! IpSnd12: what leaves a def; a def by its body. -/
namespace Ip
open PySem PySem.Spec PyProof.Rows L2  -- so
open Classical in
/-- the cells that ok names stand by value -/
noncomputable def Gup (G H : Hp) (α : List Addr) (ok : Nat → Bool) : Hp := fun a => if ∃ j, ok j = true ∧ α[j]? = some a then H a else G a
section
variable {K : PySem.W.Frag} {ca : Nat → Addr} {L L' : Nat → Prop} {G F H : Hp} {α : List Addr} {S : Store} {ok : Nat → Bool} {n0 : Nat}
theorem Gup.at {j : Nat} {a : Addr} (h : ok j = true) (e : α[j]? = some a) : Gup G H α ok a = H a := by
  unfold Gup
  rw [if_pos ⟨j, h, e⟩]
theorem Gup.not {a : Addr} (h : ∀ j, ok j = true → α[j]? ≠ some a) : Gup G H α ok a = G a := by
  unfold Gup
  rw [if_neg fun ⟨j, h1, h2⟩ => h j h1 h2]
theorem Gup.le (C : Conc K ca L' G F α S H) : Le G (Gup G H α ok) := fun a o e => by
  rw [Gup.not fun j _ z => ?_]
  · exact e
  · have := C.ag a (List.mem_of_getElem? z)
    rw [this] at e
    cases e
theorem Gup.up (C : Conc K ca L' G F α S H) : Le (Gup G H α ok) H := fun a o e => by
  by_cases h : ∃ j, ok j = true ∧ α[j]? = some a
  · obtain ⟨j, h1, h2⟩ := h
    rwa [Gup.at h1 h2] at e
  · rw [Gup.not fun j h1 h2 => h ⟨j, h1, h2⟩] at e
    exact C.gh a o e
theorem nodup_at {α : List Addr} (nd : α.Nodup) {i j : Nat} {a : Addr} (h1 : α[i]? = some a) (h2 : α[j]? = some a) : i = j := by
  have l1 := (List.getElem?_eq_some_iff.mp h1).1
  exact (List.getElem?_inj l1 nd).mp (h1.trans h2.symm)
theorem Conc.take (C : Conc K ca L' G F α S H) (h0 : L' n0) (hL : ∀ m, L m → L' m ∧ m ≤ n0) (hok : ∀ j, ok j = true → n0 ≤ j) : Conc K ca L (Gup G H α ok) F (α.take n0) (S.take n0) H := by
  have sub : ∀ {k : Nat} {a : Addr}, (α.take n0)[k]? = some a → k < n0 ∧ α[k]? = some a := fun {k a} e => by
    rw [List.getElem?_take] at e
    split at e
    · exact ⟨by assumption, e⟩
    · cases e
  have subS : ∀ {k : Nat} {c : Cell}, (S.take n0)[k]? = some c → k < n0 ∧ S[k]? = some c := fun {k a} e => by
    rw [List.getElem?_take] at e
    split at e
    · exact ⟨by assumption, e⟩
    · cases e
  refine ⟨Gup.up C, C.fh, fun a o e => ?_, fun a o e m => C.fa a o e (List.mem_of_mem_take m), fun a m => ?_, C.nd.sublist (List.take_sublist _ _), by rw [List.length_take, List.length_take, C.len], fun m hm => ?_, fun k c a h1 h2 => ?_, fun m hm k c a hk h1 h2 => ?_⟩
  · rw [Gup.not fun j _ z => C.fa a o e (List.mem_of_getElem? z)]
    exact C.fg a o e
  · obtain ⟨k, e⟩ := List.getElem?_of_mem m
    obtain ⟨e1, e2⟩ := sub e
    rw [Gup.not fun j hj z => by
      have := nodup_at C.nd e2 z
      have := hok j hj
      omega]
    exact C.ag a (List.mem_of_mem_take m)
  · rw [List.length_take]
    exact Nat.le_min.mpr ⟨(hL m hm).2, C.low m (hL m hm).1⟩
  · obtain ⟨l1, e1⟩ := subS h1
    obtain ⟨l2, e2⟩ := sub h2
    exact (C.old n0 h0 k c a l1 e1 e2).mono (Gup.le C) (Pre.refl _)
  · obtain ⟨l1, e1⟩ := subS h1
    obtain ⟨l2, e2⟩ := sub h2
    rw [List.take_take, Nat.min_eq_left (hL m hm).2]
    exact (C.old m (hL m hm).1 k c a hk e1 e2).mono (Gup.le C) (Pre.refl _)
mutual
theorem R.out {β : List Addr} {G2 : Hp} {g : Nat → Option PV} (hG : Le G G2) (hg : ∀ (j : Nat) (q : PV) (a : Addr), g j = some q → α[j]? = some a → R K ca G2 β q (.ref a)) : ∀ {p : PV} {v : V} {q : PV}, R K ca G α p v → p.subst g = some q → R K ca G2 β q v
  | _, _, _, .non, e => by cases e; exact .non
  | _, _, _, .bl b, e => by cases e; exact .bl b
  | _, _, _, .int i, e => by cases e; exact .int i
  | _, _, _, .str x, e => by cases e; exact .str x
  | _, _, _, .tup h r, e => by
    simp only [PV.subst, Option.map_eq_some_iff] at e
    obtain ⟨ys, e1, rfl⟩ := e
    exact .tup (hG.sqT h) (Rs.out hG hg r e1)
  | _, _, _, .lst h r, e => by
    simp only [PV.subst, Option.map_eq_some_iff] at e
    obtain ⟨ys, e1, rfl⟩ := e
    exact .lst (hG _ _ h) (Rs.out hG hg r e1)
  | _, _, _, .slst h r, e => by
    simp only [PV.subst, Option.map_eq_some_iff] at e
    obtain ⟨ys, e1, rfl⟩ := e
    exact .slst (hG.sqL h) (Rs.out hG hg r e1)
  | _, _, _, .dct h r, e => by
    simp only [PV.subst, Option.map_eq_some_iff] at e
    obtain ⟨ys, e1, rfl⟩ := e
    exact .dct (hG _ _ h) (Rs.out hG hg r e1)
  | _, _, _, .loc h, e => by
    simp only [PV.subst] at e
    exact hg _ _ _ e h
  | _, _, _, .exc h1 h2 h3 r, e => by
    simp only [PV.subst, Option.map_eq_some_iff] at e
    obtain ⟨ys, e1, rfl⟩ := e
    exact .exc (hG _ _ h1) h2 (hG _ _ h3) (R.out hG hg r e1)
theorem Rs.out {β : List Addr} {G2 : Hp} {g : Nat → Option PV} (hG : Le G G2) (hg : ∀ (j : Nat) (q : PV) (a : Addr), g j = some q → α[j]? = some a → R K ca G2 β q (.ref a)) : ∀ {ps : List PV} {vs : List V} {qs : List PV}, Rs K ca G α ps vs → PV.substs g ps = some qs → Rs K ca G2 β qs vs
  | _, _, _, .nil, e => by cases e; exact .nil
  | _, _, _, .cons r t, e => by
    simp only [PV.substs] at e
    split at e
    · rename_i y ys e1 e2
      cases e
      exact .cons (R.out hG hg r e1) (Rs.out hG hg t e2)
    · cases e
end
theorem cellVal_ok {β : List Addr} (C : Conc K ca L' G F α S H) : ∀ (m j : Nat) (q : PV) (a : Addr), cellVal S ok m j = some q → α[j]? = some a → R K ca (Gup G H α ok) β q (.ref a)
  | 0, _, _, _, e, _ => by cases e
  | m + 1, j, q, a, e, h => by
    simp only [cellVal] at e
    split at e
    · rename_i hj
      split at e
      · rename_i xs es
        simp only [Option.map_eq_some_iff] at e
        obtain ⟨ys, e1, rfl⟩ := e
        obtain ⟨vs, e2, r⟩ := C.cell j _ a es h
        refine .lst ?_ (Rs.out (Gup.le C) (cellVal_ok C m) r e1)
        rw [Gup.at hj h]
        exact e2
      · cases e
    · cases e
/-- what leaves a def -/
theorem close_ok (C : Conc K ca L' G F α S H) (h0 : L' n0) (hL : ∀ m, L m → L' m ∧ m ≤ n0) {r : RV} {v : V} {ok : RV → Store → Prop} {ex : Nat → PV → Store → Prop} (rv : RVR K ca G F α H r v) (o : OutE (close n0 r S) ok ex) :
    ∃ r' G2, Le G G2 ∧ Conc K ca L G2 F (α.take n0) (S.take n0) H ∧ RVR K ca G2 F (α.take n0) H r' v ∧ ok r' (S.take n0) := by
  cases r with
  | v p =>
    simp only [close] at o
    split at o
    · rename_i hp
      exact ⟨.v p, _, Gup.le C, C.take (ok := fun j => decide (n0 ≤ j)) h0 hL (fun j h => by simpa using h), (rv : R K ca G α p v).pure hp |>.mono (Gup.le C) (Pre.refl _), o⟩
    · split at o
      · rename_i k _
        split at o
        · rename_i hk
          refine ⟨.v (.loc k), _, Gup.le C, C.take (ok := fun j => decide (n0 ≤ j)) h0 hL (fun j h => by simpa using h), ?_, o⟩
          cases (rv : R K ca G α (.loc k) v) with
          | loc h => exact .loc (by rw [List.getElem?_take, if_pos hk]; exact h)
        · rename_i hk
          split at o
          · rename_i xs es
            split at o
            · rename_i ys e1
              cases (rv : R K ca G α (.loc k) v) with
              | loc h =>
                rename_i a
                obtain ⟨vs, e2, r⟩ := C.cell k _ a es h
                have hok : ∀ j, (fun j => decide (n0 ≤ j) && !(j == k)) j = true → n0 ≤ j := fun j h => by
                  simp only [Bool.and_eq_true, decide_eq_true_eq] at h  -- so
                  exact h.1
                refine ⟨.f (.lst ys), _, Gup.le C, C.take h0 hL hok, ⟨a, rfl, ⟨vs, e2, Rs.out (Gup.le C) (cellVal_ok C 6) r e1⟩, fun m => ?_, ?_, ?_⟩, o⟩
                · obtain ⟨j, e⟩ := List.getElem?_of_mem m
                  rw [List.getElem?_take] at e
                  split at e
                  · have := nodup_at C.nd e h
                    omega
                  · cases e
                · rw [Gup.not fun j hj z => ?_]
                  · exact C.ag a (List.mem_of_getElem? h)
                  · have := nodup_at C.nd h z
                    subst this
                    simp at hj
                · cases ef : F a with
                  | none => rfl
                  | some u => exact absurd (List.mem_of_getElem? h) (C.fa a u ef)
            · exact o.elim
          · exact o.elim
      · rename_i hne
        split at o
        · rename_i q e
          exact ⟨.v q, _, Gup.le C, C.take (ok := fun j => decide (n0 ≤ j)) h0 hL (fun j h => by simpa using h), R.out (Gup.le C) (cellVal_ok C 6) rv e, o⟩
        · exact o.elim
  | f c =>
    cases c with
    | lst xs =>
      obtain ⟨a, rfl, ⟨vs, e2, r⟩, h1, h2, h3⟩ := rv
      have hn : a ∉ α.take n0 := fun m => h1 (List.mem_of_mem_take m)
      have hg : ∀ ok, Gup G H α ok a = none := fun ok => by
        rw [Gup.not fun j _ z => h1 (List.mem_of_getElem? z)]
        exact h2
      simp only [close] at o
      split at o
      · rename_i hp
        exact ⟨.f (.lst xs), _, Gup.le C, C.take (ok := fun j => decide (n0 ≤ j)) h0 hL (fun j h => by simpa using h), ⟨a, rfl, ⟨vs, e2, (r.pure hp).mono (Gup.le C) (Pre.refl _)⟩, hn, hg _, h3⟩, o⟩
      · split at o
        · rename_i ys e1
          exact ⟨.f (.lst ys), _, Gup.le C, C.take (ok := fun j => decide (n0 ≤ j)) h0 hL (fun j h => by simpa using h), ⟨a, rfl, ⟨vs, e2, Rs.out (Gup.le C) (cellVal_ok C 6) r e1⟩, hn, hg _, h3⟩, o⟩
        · exact o.elim
end
/-- what all the defs of the text say, n deep -/
structure BC (prog : Program) (wd : World) (K : PySem.W.Frag) (mg : Str → Option Value) (base : Heap) (P : Pg) (T : Tab) (w n : Nat) (ca : Nat → Addr) (k : Nat) : Prop where
  blt : ∀ b ∈ bltNames, mg b = none
  gls : ∀ g x, T.glN g = some x → ∃ i t, P.gls g = some i ∧ mg x = some (.int i t)
  fns : ∀ f x, T.fnN f = some x → ∃ a fd ps, mg x = some (.ref a) ∧ PySem.W.keepIn K (.ref a) = true ∧ Binds K fd ps [] ∧ (∀ fn, P.fns f = some fn → ps.length = fn.params) ∧ FnG prog wd K mg base k a fd ps (spF K ca P w n f ps.length)
  one : 1 ≤ k
  cok : ∀ c, P.sub c c = true → ClsOk prog K (ca c)
  kit : KitOk P K ca
  clm : ∀ c x, T.clN c = some x → mg x = some (.ref (ca c)) ∧ P.sub c c = true
section
variable {prog : Program} {wd : World} {K : PySem.W.Frag} {mg : Str → Option Value} {base : Heap} {P : Pg} {T : Tab} {w n : Nat} {ca : Nat → Addr} {k : Nat} {N ps : List Str} {a : Addr} {fd : FuncData} {x q : Str} {st : Stmt}
theorem BC.xc (B : BC prog wd K mg base P T w n ca k) {sc : Scope} {cv : Value} {A : Around} {out : List Env} {s : Shared} {H : Hp} {E : XK} (nd : N.Nodup) (g : A.guards = some []) (r : Room k (A.deeper (envOfC q sc s.heap.objs.size a cv))) :
    XD P T w n ca N k (cxOf (L2.CX prog wd) prog wd K mg base N q sc a cv A out s H E) := ⟨⟨rfl, nd, rfl, g, r, B.blt, B.gls, B.fns⟩, B.one, B.cok, B.kit, B.clm⟩
theorem start_envR {G : Hp} {α : List Addr} : ∀ {qs : List PV} {vs : List V} {m : Nat}, Rs K ca G α qs vs → EnvR K ca G α (qs.map some ++ List.replicate m none) (vs.map some ++ List.replicate m none) := fun {qs vs m} r => by
  refine ⟨by rw [List.length_append, List.length_append, List.length_map, List.length_map, r.length, List.length_replicate, List.length_replicate], fun i p e => ?_⟩
  by_cases h : i < qs.length
  · rw [List.getElem?_append_left (by rw [List.length_map]; exact h), List.getElem?_map] at e
    have e : qs[i]? = some p := by
      cases z : qs[i]? with
      | none => rw [z] at e; cases e
      | some u => rw [z] at e; cases e; rfl
    obtain ⟨v, e1, r1⟩ := r.get' e
    refine ⟨v, ?_, r1⟩
    rw [List.getElem?_append_left (by rw [List.length_map, ← r.length]; exact h), List.getElem?_map, e1]
    rfl
  · rw [List.getElem?_append_right (by rw [List.length_map]; omega)] at e
    rw [List.getElem?_replicate] at e
    split at e <;> cases e
/-- THE RULE for a def -/
theorem fn_ok {f f0 m0 : Nat} {fn : Fn} (B : BC prog wd K mg base P T w n ca k) (F : L2.Fun K x q st a fd) (S : FnScope N ps (defScope st)) (hN : N.length = fn.slots) (hp : ps.length = fn.params) (hfn : P.fns f = some fn)
    (hok : okSs (okS T N f0 (defScope st).names m0) fn.body (defBody st) = true) : FnG prog wd K mg base (k + 1) a fd ps (spF K ca P w (n + 1) f ps.length) := by
  refine fnG_of F S (fun vs H Q E z => ?_) fun cv A out s H vs Q E g room hs => ?_
  · obtain ⟨L, G, Fr, α, St, qs, C, r, hl, o⟩ := z
    rw [← r.length, hl]
  · obtain ⟨L, G, Fr, α, St, qs, C, r, hl, o⟩ := hs
    have C' : Conc K ca (fun m => L m ∨ m = St.length) G Fr α St H := ⟨C.gh, C.fh, C.fg, C.fa, C.ag, C.nd, C.len, fun m hm => by
      rcases hm with hm | hm
      · exact C.low m hm
      · exact Nat.le_of_eq hm, C.cell, fun m hm j c b hj h1 h2 => by
      rcases hm with hm | hm
      · exact C.old m hm j c b hj h1 h2
      · rw [hm, ← C.len, List.take_length]
        exact C.cell j c b h1 h2⟩
    have hL : ∀ m, (L m ∨ m = St.length) → m ≤ St.length := C'.low
    have X0 : XD P T w n ca N k (cxOf (L2.CX prog wd) prog wd K mg base N q (defScope st) a cv A out s H E) := B.xc S.nd g room
    have tk : Takes (cxOf (L2.CX prog wd) prog wd K mg base N q (defScope st) a cv A out s H E) (fun cls d _ H => E cls d H) := takes_of rfl rfl rfl rfl
    have po := passes_of (X := cxOf (L2.CX prog wd) prog wd K mg base N q (defScope st) a cv A out s H E) rfl
    have body : SSs P (callF P w n) St.length w ca (fun m => L m ∨ m = St.length) (cxOf (L2.CX prog wd) prog wd K mg base N q (defScope st) a cv A out s H E) (fun cls d _ H => E cls d H) fn.body (defBody st) :=
      okSs_ok (fun s1 x1 h1 => okS_ok hL X0 tk (ScOk.def fun _ => rfl) po S.kind _ s1 x1 h1) hok
    simp only [callF, hfn, hl, hp, if_true] at o
    refine body Fr (qs.map some ++ List.replicate (fn.slots - fn.params) none) St (start N vs) H G α _ C' ?_ ?_
    · unfold L2.start
      rw [← r.length, hl, hp, hN]
      exact start_envR r
    · have pre : ∀ {α' : List Addr} {S' : Store} {H' G' : Hp}, Pre α α' → α'.take St.length = α := fun {α' S' H' G'} p => by
        apply List.ext_getElem?
        intro i
        rw [List.getElem?_take]
        split
        · rename_i hi
          rw [← C.len] at hi
          rw [p i _ (List.getElem?_eq_getElem hi), List.getElem?_eq_getElem hi]
        · rename_i hi
          rw [← C.len] at hi
          rw [List.getElem?_eq_none (by omega)]  -- so
      have hLL : ∀ m, L m → (L m ∨ m = St.length) ∧ m ≤ St.length := fun m hm => ⟨.inl hm, C.low m hm⟩
      cases ex : execSs P (callF P w n) St.length w fn.body (qs.map some ++ List.replicate (fn.slots - fn.params) none) St with
      | nx ρ' S' =>
        rw [ex] at o
        intro σ' H' G' α' l p C1 hE
        obtain ⟨r', G2, l2, C2, r2, o2⟩ := close_ok C1 (.inr rfl) hLL (r := .v .non) (v := .non) .non o
        rw [pre (S' := S') (H' := H') (G' := G') p] at C2 r2
        exact o2 _ H' G2 (l.trans l2) C2 r2
      | rt rr S' =>
        rw [ex] at o
        intro v H' G' α' l p C1 rv
        obtain ⟨r', G2, l2, C2, r2, o2⟩ := close_ok C1 (.inr rfl) hLL rv o
        rw [pre (S' := S') (H' := H') (G' := G') p] at C2 r2
        exact o2 _ H' G2 (l.trans l2) C2 r2
      | exn c v ρ' S' =>
        rw [ex] at o
        simp only [closeS] at o
        split at o
        · rename_i hv
          intro d y σ' H' G' α' l p C1 hE ed rv
          have C2 := C1.take (ok := fun j => decide (St.length ≤ j)) (.inr rfl) hLL (fun j h => by simpa using h)
          rw [pre (S' := S') (H' := H') (G' := G') p] at C2
          exact o d y H' _ (l.trans (Gup.le C1)) C2 (Gup.le C1 _ _ ed) ((rv.pure hv).mono (Gup.le C1) (Pre.refl _))
        · exact o.elim
      | bk ρ' S' => rw [ex] at o; exact o.elim
      | ct ρ' S' => rw [ex] at o; exact o.elim
      | bad => rw [ex] at o; exact o.elim
/-- nothing is promised no call deep -/
theorem fn_zero {f m : Nat} : FnG prog wd K mg base k a fd ps (spF K ca P w 0 f m) :=
  ⟨fun vs H Q E z => by
    obtain ⟨_, _, _, _, _, _, _, _, _, o⟩ := z
    exact o.elim, fun B out s H ar us vs Q E _ _ _ _ _ z => by
    obtain ⟨_, _, _, _, _, _, _, _, _, o⟩ := z
    exact o.elim⟩
end
end Ip

/-! IpLaw: all defs of a row by their matched bodies; the classes by one reckoning; the law's own call. -/
namespace Ip
open PySem PySem.Spec PyProof.Rows L2  -- so
/-! ### the defs -/
/-- what the text says of a def -/
def FnRow (K : PySem.W.Frag) (mg : Str → Option Value) (P : Pg) (T : Tab) (f : Nat) (x : Str) : Prop :=
  ∃ (a : Addr) (fd : FuncData) (ps N : List Str) (q : Str) (st : Stmt) (f0 m0 : Nat) (fn : Fn), mg x = some (.ref a) ∧ Binds K fd ps [] ∧ L2.Fun K x q st a fd ∧ FnScope N ps (defScope st) ∧ P.fns f = some fn ∧ N.length = fn.slots ∧ ps.length = fn.params ∧
    okSs (okS T N f0 (defScope st).names m0) fn.body (defBody st) = true
section
variable {prog : Program} {wd : World} {K : PySem.W.Frag} {mg : Str → Option Value} {base : Heap} {P : Pg} {T : Tab} {w : Nat} {ca : Nat → Addr}
theorem bc_all (blt : ∀ b ∈ bltNames, mg b = none) (gls : ∀ g x, T.glN g = some x → ∃ i t, P.gls g = some i ∧ mg x = some (.int i t)) (rows : ∀ f x, T.fnN f = some x → FnRow K mg P T f x)
    (cok : ∀ c, P.sub c c = true → ClsOk prog K (ca c)) (kit : KitOk P K ca) (clm : ∀ c x, T.clN c = some x → mg x = some (.ref (ca c)) ∧ P.sub c c = true) : ∀ n, BC prog wd K mg base P T w n ca (n + 1) := fun n => by
  induction n with
  | zero =>
    refine ⟨blt, gls, fun f x h => ?_, Nat.le_refl _, cok, kit, clm⟩
    obtain ⟨a, fd, ps, N, q, st, f0, m0, fn, h1, h2, h3, h4, h5, h6, h7, h8⟩ := rows f x h
    exact ⟨a, fd, ps, h1, h3.kp, h2, fun fn' e => by rw [h5] at e; cases e; exact h7, fn_zero⟩
  | succ n ih =>
    refine ⟨blt, gls, fun f x h => ?_, Nat.le_add_left _ _, cok, kit, clm⟩
    obtain ⟨a, fd, ps, N, q, st, f0, m0, fn, h1, h2, h3, h4, h5, h6, h7, h8⟩ := rows f x h
    exact ⟨a, fd, ps, h1, h3.kp, h2, fun fn' e => by rw [h5] at e; cases e; exact h7, fn_ok ih h3 h4 h6 h7 h5 h8⟩
end
/-! ### the law's own call -/
theorem ints_rs {K : PySem.W.Frag} {ca : Nat → Addr} {G : Hp} {α : List Addr} : ∀ ns : List Int, Rs K ca G α (ns.map PV.int) (ns.map V.int)
  | [] => .nil
  | n :: ns => .cons (.int n) (ints_rs ns)
theorem law_callG {prog : Program} {wd : World} {K : PySem.W.Frag} {mg mb : Str → Option Value} {k : Nat} {fa a : Addr} {fd : FuncData} {x : Str} {sp : Sp} {s1 : Shared} {us : List Value} {ns : List Int}
    (KX : K.In s1.heap) (hg : s1.heap.Ns mainGlobals mg) (hb : s1.heap.Ns builtinsNs mb) (hbb : ∀ y : Str, y ≠ "__name__" → mb y = bootBuiltins y) (lim : s1.heap.NoLimit) (gen : s1.gens = #[]) (ha : s1.heap.get? a = some { cls := .type "list", data := .seq us.toArray }) (hi : IntsAre us ns) (hl : ns.length ≤ sizeLine) (room : Room k callerA)
    (F : ∀ base : Heap, FnG prog wd K mg base k fa fd [x] sp) (hbind : ∀ (s : Shared) (u : Value), BindsTo s fd ⟨[u], []⟩ [(x, u)])
    (hsp : ∀ H : Hp, SqL K H a (ns.map V.int) → sp [.ref a] H (fun v _ => v = .bl true) fun _ _ _ => False) :
    codeAny (model prog wd) callerA (.call (.ref fa) ⟨[.ref a], []⟩) (fun r s' => r = .ok (.ret (.bool true)) ∧ OldK s1.heap s'.heap ∧ s'.os = s1.os ∧ AllBare s'.gens) s1 := by
  have hv := vals_ints hi
  have hlv := hi.length
  have main : ∀ H : Hp, (∀ b u, H b = some u → b = a ∧ (∃ o xs, u = .frz o (.lst xs)) ∧ K.lookup a = none) → SqL K H a (ns.map V.int) → HOk prog wd H s1.heap → codeAny (model prog wd) callerA (.call (.ref fa) ⟨[.ref a], []⟩) (fun r s' => r = .ok (.ret (.bool true)) ∧ OldK s1.heap s'.heap ∧ s'.os = s1.os ∧ AllBare s'.gens) s1 := by
    intro H hH hS hok
    have no_dict : ∀ {b : Addr} {o : Obj} {es : Array DictEntry} {ep : Nat}, s1.heap.get? b = some o → o.data = .dict es ep → H b = none := fun {b o es ep} e d => by
      cases q : H b with
      | none => rfl
      | some u =>
        obtain rfl := (hH b u q).1
        rw [ha] at e
        cases e
        have d' : Data.seq us.toArray _ = Data.dict es ep := d
        cases d'
    have ns_up : ∀ {b : Addr} {m : Str → Option Value}, s1.heap.Ns b m → (hidT s1.heap H).Ns b m := fun {b m} h => by
      obtain ⟨o, es, ep, e, d, r⟩ := h
      exact ⟨o, es, ep, hidT_get e (no_dict e d), d, r⟩
    have kin : K.In (hidT s1.heap H) := fun b o e => hidT_get (KX b o e) (by
      cases q : H b with
      | none => rfl
      | some u =>
        obtain ⟨rfl, _, z⟩ := hH b u q
        rw [z] at e
        cases e)
    obtain ⟨mc, l1, l2⟩ := lim
    have e0 : Env0 prog wd K mg (hidT s1.heap H) callerA [] s1 H :=
      ⟨rfl, ⟨kin, ns_up hg, ⟨mb, ns_up hb, hbb⟩, ⟨mc, ns_up l1, l2⟩⟩, fun b o e => of_hidT e, Nat.le_of_eq (hidT_size _ _), trivial, fun b z => absurd (show b ∈ ([] : List Addr) from z) (by simp), hok, .of_eq gen⟩
    refine codeAny_mono ((F _).go callerA [] s1 H ⟨[.ref a], []⟩ [.ref a] [.ref a] _ _ rfl room e0 (hbind s1 (.ref a)) (.cons rfl .nil) (hsp H hS)) fun r s' h => ?_
    cases r with
    | error e =>
      obtain ⟨_, _, _, _, _, _, h⟩ := h
      simp_all
    | ok fl =>
      cases fl with
      | ret u =>
        obtain ⟨v, H', os, bare, un, hok', rv, q⟩ := h
        obtain rfl : v = .bl true := q
        obtain rfl : u = Value.bool true := rv
        refine ⟨rfl, OldK.of_keep fun b o e => ?_, os, bare⟩  -- so
        cases z : H b with
        | none => exact un.keep b o e z (fun y => absurd (show b ∈ ([] : List Addr) from y) (by simp)) (by simp)
        | some u =>
          obtain ⟨_, ⟨ob, xs, rfl⟩, _⟩ := hH b u z
          have e1 := (hok b _ z).1
          have e2 := (hok' b _ (un.frzs b ob _ z)).1
          rw [e] at e1
          cases e1
          exact e2
      | next => exact False.elim h
      | brk => exact False.elim h
      | cont => exact False.elim h
  cases hk : K.lookup a with
  | some o =>
    have e := KX a o hk
    rw [ha] at e
    cases e
    refine main (fun _ => none) (fun b u z => by have z' : (none : Option HO) = some u := z; cases z') (.inr ⟨_, us.toArray, _, hk, rfl, rfl, rfl, ?_, by simpa using hv⟩) fun b u z => by have z' : (none : Option HO) = some u := z; cases z'
    rw [List.size_toArray, hlv]
    exact hl
  | none =>
    refine main (fun b => if b = a then some (.frz { cls := .type "list", data := .seq us.toArray } (.lst (ns.map V.int))) else none) (fun b u z => ?_) (.inl (.inr ⟨_, if_pos rfl⟩)) fun b u z => ?_
    · by_cases e : b = a
      · rw [if_pos e] at z
        cases z
        exact ⟨e, ⟨_, _, rfl⟩, hk⟩
      · rw [if_neg e] at z
        cases z
    · by_cases e : b = a
      · have z := (if_pos e).symm.trans z
        cases z
        subst e
        refine ⟨ha, ?_, us, _, hv, ha⟩
        rw [List.length_map]
        exact hl
      · have z := (if_neg e).symm.trans z
        cases z
/-! ### the classes, by one reckoning -/
def gAt (K : PySem.W.Frag) (x : Str) : Option Addr := match PySem.W.nsIn K mainGlobals x with
  | some (some (.ref a)) => some a
  | _ => none
/-- the address of the class that has the number c -/
def caOf (cls : List (Str × List Nat)) (K : PySem.W.Frag) (c : Nat) : Addr := match cls[c]? with
  | some p => (gAt K p.1).getD 0
  | none => 0
def subOf (cls : List (Str × List Nat)) (c d : Nat) : Bool := match cls[c]?, cls[d]? with
  | some p, some _ => p.2.contains d
  | _, _ => false
def oexB (K : PySem.W.Frag) (C : Addr) : Bool := match K.lookup C with
  | some ⟨.type "type", _, .cls cd, sl⟩ => (match cd.mro, sl.toList with  -- so
    | .ref C' :: bm, [_, _, _, _, some (.builtin n), _] => C' == C && n == "ValueError.__new__" && !cd.hasDel && cd.hasDict && PySem.HandSPX.refsVE bm
    | _, _ => false)
  | _ => false
theorem oexB_ok {K : PySem.W.Frag} {C : Addr} (h : oexB K C = true) : ∃ nm q N bs bm sn sub ab col dd k0 k1 k2 k3 k5, K.lookup C = some (excClassObj nm q C N bs bm true sn sub ab col dd k0 k1 k2 k3 k5 "ValueError.__new__") ∧ PySem.HandSPX.refsVE bm = true := by
  unfold oexB at h
  split at h
  · rename_i dd cd sl ho
    split at h
    · rename_i C' bm k0 k1 k2 k3 n k5 hm hs  -- so
      simp only [Bool.and_eq_true, beq_iff_eq, Bool.not_eq_true'] at h
      obtain ⟨⟨⟨⟨rfl, rfl⟩, hdel⟩, hdct⟩, hbm⟩ := h
      obtain ⟨nm, bs, mro, ns, qn, hd, sn, sub, ab, col, del⟩ := cd  -- so
      dsimp only at hm hdel hdct
      subst hm hdel hdct
      have hsl : sl = #[k0, k1, k2, k3, some (.builtin "ValueError.__new__"), k5] := by
        obtain ⟨l⟩ := sl
        simp only at hs
        rw [hs]
      subst hsl
      exact ⟨nm, qn, ns, bs, bm, sn, sub, ab, col, dd, k0, k1, k2, k3, k5, ho, hbm⟩
    · cases h
  · cases h
def clsB (K : PySem.W.Frag) (fI D C : Addr) : Bool :=
  oexB K C && decide (PySem.W.findIn K (.ref C) "__setattr__" = some (some (.builtin "object.__setattr__"))) && decide (PySem.W.subIn K (.ref C) (.type "BaseException") = some true) && decide (PySem.W.typeIn K (.ref C) = some (.type "type")) && PySem.W.keepIn K (.ref C) &&
  decide (PySem.W.findIn K (.ref C) "__init__" = some (some (.ref fI))) && decide (PySem.W.mroIn K C (.ref D) = some true) && decide (PySem.W.ks_superIn K C D "__init__" = some (some (.builtin "ValueError.__init__"))) && decide (PySem.W.subIn K (.ref C) (.type "ValueError") = some true) && decide (PySem.W.findIn K (.ref C) sValue = some none) &&
  decide (PySem.W.findIn K (.ref C) "__getattribute__" = some (some (.builtin "BaseException.__getattribute__"))) && decide (PySem.W.findIn K (.ref C) "__getattr__" = some none) && PySem.W.hasDictIn K C &&
  decide (PySem.W.findIn K (.ref C) "__class__" = some (some (.builtin "object.__class__"))) && decide (PySem.W.mroIn K C (.type "object") = some true)
def clsesB (cls : List (Str × List Nat)) (K : PySem.W.Frag) (fI D : Addr) : Bool :=
  decide (PySem.W.specialIn K (.builtin "object.__class__") "__get__" = some (some (.builtin "getset_descriptor.__get__"))) && decide (PySem.W.takesIn K (.builtin "object.__class__") = some true) &&
  (List.range cls.length).all fun c => subOf cls c c && decide ((gAt K (cls[c]?.getD default).1).isSome = true) && clsB K fI D (caOf cls K c) && decide (PySem.W.kitOne K (.ref (caOf cls K c)) (.type "ValueError") = some true) && (List.range cls.length).all fun d => decide (PySem.W.kitOne K (.ref (caOf cls K c)) (.ref (caOf cls K d)) = some (subOf cls c d))
theorem clses_ok {prog : Program} {K : PySem.W.Frag} {mg : Str → Option Value} {h : Heap} {P : Pg} {T : Tab} {cls : List (Str × List Nat)} {fI D : Addr} (X : K.In h) (G : h.Ns mainGlobals mg) (I : SupI prog K fI D) (hP : P.sub = subOf cls) (hT : T.clN = fun c => (cls[c]?).map (·.1)) (b : clsesB cls K fI D = true) :
    (∀ c, P.sub c c = true → ClsOk prog K (caOf cls K c)) ∧ KitOk P K (caOf cls K) ∧ (∀ c x, T.clN c = some x → mg x = some (.ref (caOf cls K c)) ∧ P.sub c c = true) := by
  unfold clsesB at b
  simp only [Bool.and_eq_true, List.all_eq_true, List.mem_range, decide_eq_true_eq] at b
  obtain ⟨⟨s1, s2⟩, b⟩ := b
  have lt : ∀ c d, subOf cls c d = true → c < cls.length ∧ d < cls.length := fun c d h => by
    unfold subOf at h
    split at h
    · rename_i p q e1 e2
      exact ⟨(List.getElem?_eq_some_iff.mp e1).1, (List.getElem?_eq_some_iff.mp e2).1⟩
    · cases h
  rw [hP, hT]
  refine ⟨fun c hc => ?_, ⟨fun c d hc hd => ?_, fun c hc => ?_⟩, fun c x hx => ?_⟩
  · obtain ⟨⟨⟨⟨_, _⟩, h3⟩, h4⟩, h5⟩ := b c (lt c c hc).1
    unfold clsB at h3
    simp only [Bool.and_eq_true, decide_eq_true_eq] at h3  -- so
    obtain ⟨⟨⟨⟨⟨⟨⟨⟨⟨⟨⟨⟨⟨⟨a1, a2⟩, a3⟩, a4⟩, a5⟩, a6⟩, a7⟩, a8⟩, a9⟩, a10⟩, a11⟩, a12⟩, a13⟩, a14⟩, a15⟩ := h3
    exact ⟨⟨fI, D, I, ⟨⟨oexB_ok a1, a2, a3, a4, a5⟩, a6, a7, a8, a9, a10⟩⟩, ⟨a11, a12, a3, a13⟩, ⟨a11, a12, a3, a13, a14, s1, s2, a15⟩⟩
  · rw [hP] at hc hd
    rw [hP]
    exact (b c (lt c c hc).1).2 d (lt d d hd).1
  · rw [hP] at hc
    exact (b c (lt c c hc).1).1.2
  · have hx : (cls[c]?).map (·.1) = some x := hx
    have hlt : c < cls.length := by
      cases e : cls[c]? with
      | none => rw [e] at hx; cases hx
      | some p => exact (List.getElem?_eq_some_iff.mp e).1
    obtain ⟨⟨⟨⟨h1, h2⟩, _⟩, _⟩, _⟩ := b c hlt
    refine ⟨?_, h1⟩
    have ex : cls[c]? = some cls[c] := List.getElem?_eq_getElem hlt
    rw [ex] at hx h2
    cases hx
    have h2 : (gAt K (cls[c]).1).isSome = true := h2
    have e1 : caOf cls K c = (gAt K (cls[c]).1).getD 0 := by unfold caOf; rw [ex]
    rw [e1]
    cases e : gAt K (cls[c]).1 with
    | none => rw [e] at h2; cases h2  -- so
    | some a =>
      unfold gAt at e
      split at e
      · rename_i a' z
        cases e
        exact PySem.W.mg_of X G z
      · cases e
/-- the goal that k_head leaves, from the evaluator's word -/
theorem walk_G {l : PySem.W.OpenLaw} {n : Nat} {q : Program} {loose : List Str} {XP : (Str → Option Value) → Heap → Prop} {YP : World → Heap → Prop} {d : DefRec} {K : Params → PySem.W.Frag} {x : Str} {P : Pg} {w nn f : Nat}
    (hn : l.most = some n) (hn2 : n ≤ sizeLine) (hdf : d.params.defaults = []) (hr : Room (nn + 1) callerA) (hY : ∀ (wd : World) (h : Heap), YP wd h → (K wd.params).In h)
    (F : ∀ (wd : World) (mg : Str → Option Value) (fa : Addr) (h : Heap), (K wd.params).In h → h.Ns mainGlobals mg → mg d.name = some (.ref fa) →
      ∃ (fd : FuncData) (ca : Nat → Addr), (∀ (s : Shared) (u : Value), BindsTo s fd ⟨[u], []⟩ [(x, u)]) ∧ ∀ base : Heap, FnG l.prog wd (K wd.params) mg base (nn + 1) fa fd [x] (spF (K wd.params) ca P w nn f 1))
    (ev : ∀ ns : List Int, ns.length ≤ n → ∃ S, callF P w nn f [.slst (ns.map PV.int)] [] = .ok (.v (.bl true)) S) :
    PySem.W.WalkO q loose XP YP l.row.toRowW d [] (fun f vs => PySem.call f vs) := by  -- so
  refine Att.attach_call hn hdf fun wd s0 s1 mg mb fa o pm cd doc a vs ns G Y ho hd hcd hmg hobj hints hlen hg => ?_
  have KX := hY wd _ Y
  obtain ⟨fd, ca, hb, hF⟩ := F wd mg fa _ KX G.T.g hmg
  refine law_callG KX G.T.g G.T.b G.T.builtins G.T.nolimit hg hobj hints (Nat.le_trans hlen hn2) hr hF hb fun H hS => ?_
  obtain ⟨S, e⟩ := ev ns hlen
  refine ⟨fun _ => False, fun b => if H b = none then none else H b, fun _ => none, [], [], [.slst (ns.map PV.int)], ⟨fun b o e => ?_, fun b o e => (by cases e), fun b o e => (by cases e), fun b o e => (by cases e), fun b z => absurd z (by simp), List.nodup_nil, rfl, fun m z => z.elim, fun j c b e => (by simp at e), fun m z => z.elim⟩, .cons (.slst ?_ (ints_rs ns)) .nil, rfl, ?_⟩
  · have e : (if H b = none then none else H b) = some o := e
    split at e
    · cases e
    · exact e
  · have eH : (fun b => if H b = none then none else H b) = H := by
      funext b
      split
      · rename_i z; exact z.symm
      · rfl
    rw [eH]
    exact hS
  · rw [e]
    intro v H' G' _ _ rv
    exact R.bl_inv rv
/-! ### the __init__ of the text -/
def inSt : Stmt → Stmt
  | .ClassDef _ _ _ b _ _ _ _ _ _ _ => b.getD 0 (.Pass ⟨0, 0, 0, 0⟩)
  | s => s
def supScB (sc : Scope) (ps : Arguments) : Bool :=
  decide (sc.kind = .function) && !sc.isCoroutine && !sc.isGenerator && (sc.names.all fun x => !decide (x.2 = .cell)) && decide (sc.names.lookup ("self" : Str) = some .local) && decide (sc.names.lookup ("value" : Str) = some .local) && decide (sc.names.lookup ("super" : Str) = some .globalImplicit) && decide (sc.names.lookup ("__class__" : Str) = some .free) &&
    (match (ps.posonlyargs ++ ps.args).head? with
      | some ar => decide (ar.arg = "self")
      | none => false)
theorem sup_mk {prog : Program} {K : PySem.W.Frag} {fI D : Addr} {st : Stmt} {nm qual : Str} {dV kV doc pm ct oc cl ccl : Value} {an od cld ccd : Option Addr} {osl csl ccs : Array (Option Value)} {cda cc : Addr} {vs : Array Value} {file : Str} {tf : Tok} {cdD : ClassData} {p0 p1 p2 p3 p4 p5 p6 p7 p8 p9 : Pos}
    (l1 : K.lookup fI = some ⟨oc, od, .func (PySem.W.ksFn nm qual (defArgs st) (supBody p0 p1 p2 p3 p4 p5 p6 p7 p8 p9) (defScope st) dV kV doc pm an (.ref cda) ct cc), osl⟩) (c1 : PySem.W.codeIn K (.ref cda) qual = true) (l2 : K.lookup cda = some ⟨ccl, ccd, .fields vs, ccs⟩) (hv : vs[2]? = some (.str file tf)) (hf : ((prog.main.file : Str) == file) = true)
    (l3 : K.lookup cc = some ⟨cl, cld, .cell (some (.ref D)), csl⟩) (l4 : PySem.W.clsIn K D = some cdD) (hl : (p2.endLine == p4.line) = true) (hb : ∀ us : List Value, us.length = 2 → bindArgs (PySem.W.ksFn nm qual (defArgs st) (supBody p0 p1 p2 p3 p4 p5 p6 p7 p8 p9) (defScope st) dV kV doc pm an (.ref cda) ct cc) ⟨us, []⟩ = pure ((["self", "value"] : List Str).zip us))
    (hs : supScB (defScope st) (defArgs st) = true) (top : (prog.main.scope.names.lookup ("super" : Str)).isSome = false) (ty : PySem.W.typeIn K (.ref fI) = some (.type "function")) (ny : PySem.W.nsIn K PySem.cStatics "thirdparty.any" = some none) : SupI prog K fI D := by
  unfold supScB at hs
  simp only [Bool.and_eq_true, decide_eq_true_eq, List.all_eq_true, Bool.not_eq_true', decide_eq_false_iff_not] at hs
  obtain ⟨⟨⟨⟨⟨⟨⟨⟨h1, h2⟩, h3⟩, h4⟩, h5⟩, h6⟩, h7⟩, h8⟩, h9⟩ := hs
  refine ⟨⟨nm, qual, _, _, dV, kV, doc, pm, ct, oc, cl, ccl, an, od, cld, ccd, osl, csl, ccs, cda, cc, vs, file, tf, cdD, p0, p1, p2, p3, p4, p5, p6, p7, p8, p9, l1, c1, hb, h1, h2, h3, h4, h5, h6, h7, h8, ?_, l2, hv, hf, l3, l4, hl⟩, top, ty, ny⟩
  split at h9
  · rename_i ar e
    exact ⟨ar, e, by simpa using h9⟩
  · cases h9
/-- the names that stand for the built-in things -/
def bltB (K : PySem.W.Frag) : Bool := bltNames.all fun b => decide (PySem.W.nsIn K mainGlobals b = some none)
theorem bltB_ok {K : PySem.W.Frag} {mg : Str → Option Value} {h : Heap} (X : K.In h) (G : h.Ns mainGlobals mg) (e : bltB K = true) : ∀ b ∈ bltNames, mg b = none := fun b hb => by
  unfold bltB at e
  exact PySem.W.mg_none_of X G (of_decide_eq_true (List.all_eq_true.mp e b hb))
def fileOk (prog : Program) (vs : Array Value) : Bool := match (vs[2]? : Option Value) with
  | some (Value.str f _) => (prog.main.file : Str) == f
  | _ => false
theorem fileOk_ok {prog : Program} {vs : Array Value} (h : fileOk prog vs = true) : ∃ file tf, vs[2]? = some (.str file tf) ∧ ((prog.main.file : Str) == file) = true := by
  unfold fileOk at h
  split at h
  · rename_i f t e
    exact ⟨f, t, e, h⟩
  · cases h
end Ip

/-! IpSimp: how the evaluator is reckoned out. -/
namespace Ip
open PySem
/-- what goes on behind: its tag keeps simp out of it until its turn has come -/
structure Tg {α : Type} (k : α) : Type where
def Out.th {α β : Type} (o : Out α) (k : α → Store → Out β) (_ : Tg k := ⟨⟩) : Out β := o.bind k
def SO.on {α : Type} (o : Out α) (ρ : Rho) (k : α → Store → SO) (_ : Tg k := ⟨⟩) : SO := SO.of o ρ k
def SO.sq (o : SO) (k : Rho → Store → SO) (_ : Tg k := ⟨⟩) : SO := o.seq k
@[simp] theorem th_ok {α β : Type} (a : α) (S : Store) (k : α → Store → Out β) (t : Tg k) : (Out.ok a S).th k t = k a S := rfl
@[simp] theorem on_ok {α : Type} (a : α) (S : Store) (ρ : Rho) (k : α → Store → SO) (t : Tg k) : SO.on (.ok a S) ρ k t = k a S := rfl
@[simp] theorem sq_nx (ρ : Rho) (S : Store) (k : Rho → Store → SO) (t : Tg k) : (SO.nx ρ S).sq k t = k ρ S := rfl
@[simp] theorem sq_rt (r : RV) (S : Store) (k : Rho → Store → SO) (t : Tg k) : (SO.rt r S).sq k t = .rt r S := rfl
section
variable (P : Pg) (cf : Nat → List PV → Store → Out RV) (n0 w : Nat) (ρ : Rho) (S : Store)
@[simp] theorem ev_cst (p : PV) : evalE P cf n0 (.cst p) ρ S = .ok (.v p) S := rfl
@[simp] theorem ev_var (i : Nat) : evalE P cf n0 (.var i) ρ S = match ρ[i]? with
    | some (some p) => .ok (.v p) S
    | _ => .bad := rfl
@[simp] theorem ev_gl (g : Nat) : evalE P cf n0 (.gl g) ρ S = match P.gls g with
    | some i => .ok (.v (.int i)) S
    | none => .bad := rfl
@[simp] theorem ev_tup (es : List IE) : evalE P cf n0 (.tup es) ρ S = (evalEs P cf n0 es ρ S).th fun ps S1 => .ok (.v (.tup ps)) S1 := rfl
@[simp] theorem ev_lst (es : List IE) : evalE P cf n0 (.lst es) ρ S = (evalEs P cf n0 es ρ S).th fun ps S1 => .ok (.f (.lst ps)) S1 := rfl
@[simp] theorem ev_nil : evalEs P cf n0 [] ρ S = .ok [] S := rfl
@[simp] theorem ev_cons (e : IE) (es : List IE) : evalEs P cf n0 (e :: es) ρ S = (evalE P cf n0 e ρ S).th fun p S1 => (evalEs P cf n0 es ρ S1).th fun ps S2 => .ok (p.fz :: ps) S2 := rfl
def oRv : Option RV → Store → Out RV
  | some r, S => .ok r S
  | none, _ => .bad
def oBl : Option Bool → Store → Out RV
  | some r, S => .ok (.v (.bl r)) S
  | none, _ => .bad
@[simp] theorem oRv_some (r : RV) : oRv (some r) S = .ok r S := rfl
@[simp] theorem oBl_some (r : Bool) : oBl (some r) S = .ok (.v (.bl r)) S := rfl
@[simp] theorem ev_bin (o : Bop) (a b : IE) : evalE P cf n0 (.bin o a b) ρ S = (evalE P cf n0 a ρ S).th fun p S1 => (evalE P cf n0 b ρ S1).th fun q S2 => oRv (evBin S2 o p.fz q.fz) S2 := by
  rw [evalE]; congr; funext p S1; congr; funext q S2
  cases evBin S2 o p.fz q.fz <;> rfl
@[simp] theorem ev_neg (a : IE) : evalE P cf n0 (.neg a) ρ S = (evalE P cf n0 a ρ S).th fun p S1 => match p with
    | .v (.int i) => .ok (.v (.int (-i))) S1
    | _ => .bad := rfl
@[simp] theorem ev_not (a : IE) : evalE P cf n0 (.not a) ρ S = (evalE P cf n0 a ρ S).th fun p S1 => match p with
    | .v (.bl b) => .ok (.v (.bl (!b))) S1
    | _ => .bad := rfl
/-- and, or, behind the first -/
def kAnd (k : Store → Out RV) : RV → Store → Out RV
  | .v (.bl true), S => (k S).th fun q S2 => match q with
      | .v (.bl c) => .ok (.v (.bl c)) S2
      | _ => .bad
  | .v (.bl false), S => .ok (.v (.bl false)) S
  | _, _ => .bad
def kOr (k : Store → Out RV) : RV → Store → Out RV
  | .v (.bl false), S => (k S).th fun q S2 => match q with
      | .v (.bl c) => .ok (.v (.bl c)) S2
      | _ => .bad
  | .v (.bl true), S => .ok (.v (.bl true)) S
  | _, _ => .bad
@[simp] theorem ev_and (a b : IE) : evalE P cf n0 (.and a b) ρ S = (evalE P cf n0 a ρ S).th fun p S1 => kAnd (fun S => evalE P cf n0 b ρ S) p S1 := by
  rw [evalE]; congr; funext p S1
  cases p with
  | f c => rfl
  | v p =>
    cases p with
    | bl t => cases t <;> rfl
    | _ => rfl
@[simp] theorem ev_or (a b : IE) : evalE P cf n0 (.or a b) ρ S = (evalE P cf n0 a ρ S).th fun p S1 => kOr (fun S => evalE P cf n0 b ρ S) p S1 := by
  rw [evalE]; congr; funext p S1
  cases p with
  | f c => rfl
  | v p =>
    cases p with
    | bl t => cases t <;> rfl
    | _ => rfl
@[simp] theorem kAnd_t (k : Store → Out RV) : kAnd k (.v (.bl true)) S = (k S).th fun q S2 => match q with
      | .v (.bl c) => .ok (.v (.bl c)) S2
      | _ => .bad := rfl
@[simp] theorem kAnd_f (k : Store → Out RV) : kAnd k (.v (.bl false)) S = .ok (.v (.bl false)) S := rfl
@[simp] theorem kOr_f (k : Store → Out RV) : kOr k (.v (.bl false)) S = (k S).th fun q S2 => match q with
      | .v (.bl c) => .ok (.v (.bl c)) S2
      | _ => .bad := rfl
@[simp] theorem kOr_t (k : Store → Out RV) : kOr k (.v (.bl true)) S = .ok (.v (.bl true)) S := rfl
@[simp] theorem ev_cmp (o : Cop) (a b : IE) : evalE P cf n0 (.cmp o a b) ρ S = (evalE P cf n0 a ρ S).th fun p S1 => (evalE P cf n0 b ρ S1).th fun q S2 => oBl (evCmp S2 o p.fz q.fz) S2 := by
  rw [evalE]; congr; funext p S1; congr; funext q S2
  cases evCmp S2 o p.fz q.fz <;> rfl
/-- behind the first of a chain -/
def kCh (k : Store → Out RV) (o' : Cop) (q : PV) : Option Bool → Store → Out RV
  | some true, S => (k S).th fun r S3 => oBl (evCmp S3 o' q r.fz) S3
  | some false, S => .ok (.v (.bl false)) S
  | none, _ => .bad
@[simp] theorem kCh_t (k : Store → Out RV) (o' : Cop) (q : PV) : kCh k o' q (some true) S = (k S).th fun r S3 => oBl (evCmp S3 o' q r.fz) S3 := rfl
@[simp] theorem kCh_f (k : Store → Out RV) (o' : Cop) (q : PV) : kCh k o' q (some false) S = .ok (.v (.bl false)) S := rfl
@[simp] theorem ev_chain (o o' : Cop) (a b c : IE) : evalE P cf n0 (.chain o o' a b c) ρ S = (evalE P cf n0 a ρ S).th fun p S1 => (evalE P cf n0 b ρ S1).th fun q S2 => kCh (fun S => evalE P cf n0 c ρ S) o' q.fz (evCmp S2 o p.fz q.fz) S2 := by
  rw [evalE]; congr; funext p S1; congr; funext q S2
  cases evCmp S2 o p.fz q.fz with
  | none => rfl
  | some t =>
    cases t with
    | false => rfl
    | true =>
      show Out.bind _ _ = Out.bind _ _
      congr; funext r S3
      cases evCmp S3 o' q.fz r.fz <;> rfl
def kIf {α : Type} (a b : Store → α) (z : α) : RV → Store → α
  | .v (.bl true), S => a S
  | .v (.bl false), S => b S
  | _, _ => z
@[simp] theorem kIf_t {α : Type} (a b : Store → α) (z : α) : kIf a b z (.v (.bl true)) S = a S := rfl
@[simp] theorem kIf_f {α : Type} (a b : Store → α) (z : α) : kIf a b z (.v (.bl false)) S = b S := rfl
@[simp] theorem ev_ite (c a b : IE) : evalE P cf n0 (.ite c a b) ρ S = (evalE P cf n0 c ρ S).th fun p S1 => kIf (fun S => evalE P cf n0 a ρ S) (fun S => evalE P cf n0 b ρ S) .bad p S1 := by
  rw [evalE]; congr; funext p S1
  cases p with
  | f c => rfl
  | v p =>
    cases p with
    | bl t => cases t <;> rfl
    | _ => rfl
@[simp] theorem ev_idx (a b : IE) : evalE P cf n0 (.idx a b) ρ S = (evalE P cf n0 a ρ S).th fun p S1 => (evalE P cf n0 b ρ S1).th fun q S2 => oRv ((evIdx S2 p.fz q.fz).map .v) S2 := by
  rw [evalE]; congr; funext p S1; congr; funext q S2
  cases evIdx S2 p.fz q.fz <;> rfl
@[simp] theorem ev_sl (a : IE) (lo hi : Option IE) : evalE P cf n0 (.sl a lo hi) ρ S = (evalE P cf n0 a ρ S).th fun p S1 => (evalO P cf n0 lo ρ S1).th fun l S2 => (evalO P cf n0 hi ρ S2).th fun h S3 => oRv (evSl S3 p.fz l h) S3 := by
  rw [evalE]; congr; funext p S1; congr; funext q S2; congr; funext h S3
  cases evSl S3 p.fz q h <;> rfl
@[simp] theorem ev_call (f : Nat) (es : List IE) : evalE P cf n0 (.call f es) ρ S = (evalEs P cf n0 es ρ S).th fun ps S1 => cf f ps S1 := rfl
@[simp] theorem ev_mk (c : Nat) (e : IE) : evalE P cf n0 (.mk c e) ρ S = (evalE P cf n0 e ρ S).th fun p S1 => .ok (.v (.exc c p.fz)) S1 := rfl
@[simp] theorem ev_bi (b : Bi) (es : List IE) : evalE P cf n0 (.bi b es) ρ S = (evalEs P cf n0 es ρ S).th fun ps S1 => oRv (evBi S1 b ps) S1 := by
  rw [evalE]; congr; funext p S1
  cases evBi S1 b p <;> rfl
@[simp] theorem ev_isi (a : IE) (t : Ty) : evalE P cf n0 (.isi a t) ρ S = (evalE P cf n0 a ρ S).th fun p S1 => oBl (evIsi P.sub S1 t p.fz) S1 := by
  rw [evalE]; congr; funext p S1
  cases evIsi P.sub S1 t p.fz <;> rfl
def oM : Option (PV × Store) → Out RV
  | some (r, S) => .ok (.v r) S
  | none => .bad
@[simp] theorem oM_some (r : PV) : oM (some (r, S)) = .ok (.v r) S := rfl
def kM (c : Bool) (k : Out RV) : Out RV := if c then k else .bad
@[simp] theorem kM_t (k : Out RV) : kM true k = k := rfl
@[simp] theorem ev_meth (m : Me) (o : IE) (es : List IE) : evalE P cf n0 (.meth m o es) ρ S = (evalE P cf n0 o ρ S).th fun p S1 => kM (isLoc p.fz) ((evalEs P cf n0 es ρ S1).th fun ps S2 => oM (evMe n0 S2 m p.fz ps)) := by
  rw [evalE]; congr
@[simp] theorem ev_val (o : IE) : evalE P cf n0 (.val o) ρ S = (evalE P cf n0 o ρ S).th fun p S1 => match p with
    | .v (.exc c q) => if P.sub c c then .ok (.v q) S1 else .bad
    | _ => .bad := rfl
@[simp] theorem ev_alloc (e : IE) : evalE P cf n0 (.alloc e) ρ S = (evalE P cf n0 e ρ S).th fun p S1 => match p with
    | .f c => .ok (.v (.loc S1.length)) (S1 ++ [c])
    | .v _ => .bad := rfl
@[simp] theorem ev_dct0 : evalE P cf n0 .dct0 ρ S = .ok (.v (.dct [] [])) S := rfl
@[simp] theorem ev_dct1 (k e : IE) : evalE P cf n0 (.dct1 k e) ρ S = (evalE P cf n0 k ρ S).th fun a S1 => (evalE P cf n0 e ρ S1).th fun r S2 => if isKey a.fz then .ok (.v (.dct [a.fz] [r.fz])) S2 else .bad := rfl
@[simp] theorem ev_rng1 (e : IE) : evalE P cf n0 (.rng [e]) ρ S = (evalE P cf n0 e ρ S).th fun p S1 => match p.fz with
    | .int n => if -(2 ^ 62) ≤ n ∧ n ≤ big then .ok (.f (.lst (rngs 0 n.toNat))) S1 else .bad
    | _ => .bad := by
  rw [evalE]
  simp only [evalEs]
  cases evalE P cf n0 e ρ S with
  | ok r S1 =>
    simp only [Out.bind_ok, th_ok]
    split <;> split <;> simp_all
  | exn c v S1 => rfl
  | bad => rfl
@[simp] theorem eo_none : evalO P cf n0 none ρ S = .ok none S := rfl
@[simp] theorem eo_some (e : IE) : evalO P cf n0 (some e) ρ S = (evalE P cf n0 e ρ S).th fun p S1 => match p with
    | .v (.int i) => .ok (some i) S1
    | _ => .bad := rfl
@[simp] theorem ec_none : evalC P cf n0 none ρ S = .ok true S := rfl
@[simp] theorem ec_some (e : IE) : evalC P cf n0 (some e) ρ S = (evalE P cf n0 e ρ S).th fun p S1 => match p with
    | .v (.bl b) => .ok b S1
    | _ => .bad := rfl
@[simp] theorem et_eq (e : IE) : evalT P cf n0 e ρ S = (evalE P cf n0 e ρ S).th fun p S1 => match p with
    | .v (.bl b) => .ok b S1
    | _ => .bad := rfl
/-! statements -/
@[simp] theorem ex_nil : execSs P cf n0 w [] ρ S = .nx ρ S := rfl
@[simp] theorem ex_cons (s : IS) (r : List IS) : execSs P cf n0 w (s :: r) ρ S = (execS P cf n0 w s ρ S).sq fun ρ' S' => execSs P cf n0 w r ρ' S' := rfl
@[simp] theorem ex_doc : execS P cf n0 w .doc ρ S = .nx ρ S := rfl
@[simp] theorem ex_asg (i : Nat) (e : IE) : execS P cf n0 w (.asg i e) ρ S = SO.on (evalE P cf n0 e ρ S) ρ fun r S1 => .nx (ρ.set i (some (bindR r S1).1)) (bindR r S1).2 := rfl
@[simp] theorem ex_par (i j : Nat) (a b : IE) : execS P cf n0 w (.par i j a b) ρ S = SO.on (evalE P cf n0 a ρ S) ρ fun r S1 => SO.on (evalE P cf n0 b ρ (bindR r S1).2) ρ fun q S2 =>
      .nx ((ρ.set i (some (bindR r S1).1)).set j (some (bindR q S2).1)) (bindR q S2).2 := rfl
def oN (ρ : Rho) : Option Store → SO
  | some S => .nx ρ S
  | none => .bad
@[simp] theorem oN_some : oN ρ (some S) = .nx ρ S := rfl
@[simp] theorem ex_sub (o i e : IE) : execS P cf n0 w (.sub o i e) ρ S = SO.on (evalE P cf n0 e ρ S) ρ fun r S1 => SO.on (evalE P cf n0 o ρ S1) ρ fun p S2 => SO.on (evalE P cf n0 i ρ S2) ρ fun q S3 => oN ρ (putAt n0 S3 p.fz q.fz r.fz) := by
  rw [execS]; congr
@[simp] theorem ex_ex (e : IE) : execS P cf n0 w (.ex e) ρ S = SO.on (evalE P cf n0 e ρ S) ρ fun _ S1 => .nx ρ S1 := rfl
@[simp] theorem ex_ret (e : IE) : execS P cf n0 w (.ret e) ρ S = SO.on (evalE P cf n0 e ρ S) ρ fun r S1 => .rt r S1 := rfl
def kB (a b : Store → SO) : Bool → Store → SO
  | true, S => a S
  | false, S => b S
@[simp] theorem kB_t (a b : Store → SO) : kB a b true S = a S := rfl
@[simp] theorem kB_f (a b : Store → SO) : kB a b false S = b S := rfl
@[simp] theorem ex_ifs (c : IE) (a b : List IS) : execS P cf n0 w (.ifs c a b) ρ S = SO.on (evalT P cf n0 c ρ S) ρ fun t S1 => kB (fun S => execSs P cf n0 w a ρ S) (fun S => execSs P cf n0 w b ρ S) t S1 := by
  rw [execS]; congr; funext t S1; cases t <;> rfl
end
/-! operations -/
@[simp] theorem fz_v (p : PV) : (RV.v p).fz = p := rfl
@[simp] theorem fz_f (xs : List PV) : (RV.f (.lst xs)).fz = .lst xs := rfl
@[simp] theorem bin_int (S : Store) (o : Bop) (i j : Int) : evBin S o (.int i) (.int j) = (Ip.binI o i j).map fun k => .v (.int k) := rfl
@[simp] theorem bi_add (i j : Int) : Ip.binI .add i j = some (i + j) := rfl
@[simp] theorem bi_sub (i j : Int) : Ip.binI .sub i j = some (i - j) := rfl
@[simp] theorem bi_mul (i j : Int) : Ip.binI .mul i j = if mulOk i j then some (i * j) else none := rfl
@[simp] theorem bi_fdiv (i j : Int) : Ip.binI .fdiv i j = if 0 < j ∧ j.natAbs.log2 < 9000 then some (i / j) else none := rfl
@[simp] theorem bi_mod (i j : Int) : Ip.binI .mod i j = if 0 < j then some (i % j) else none := rfl
@[simp] theorem bi_pow (i j : Int) : Ip.binI .pow i j = if 0 ≤ j ∧ j ≤ 1000000 ∧ i.natAbs.log2 * j.toNat < 1000000 then some (i ^ j.toNat) else none := rfl
@[simp] theorem cmp_lt (S : Store) (i j : Int) : evCmp S .lt (.int i) (.int j) = some (decide (i < j)) := rfl
@[simp] theorem cmp_le (S : Store) (i j : Int) : evCmp S .le (.int i) (.int j) = some (decide (i ≤ j)) := rfl
@[simp] theorem cmp_gt (S : Store) (i j : Int) : evCmp S .gt (.int i) (.int j) = some (decide (j < i)) := rfl
@[simp] theorem cmp_ge (S : Store) (i j : Int) : evCmp S .ge (.int i) (.int j) = some (decide (j ≤ i)) := rfl
@[simp] theorem b_int (S : Store) (i : Int) : evBi S .int [.int i] = some (.v (.int i)) := rfl
@[simp] theorem b_intb (S : Store) (b : Bool) : evBi S .int [.bl b] = some (.v (.int (if b then 1 else 0))) := rfl
@[simp] theorem b_abs (S : Store) (i : Int) : evBi S .abs [.int i] = some (.v (.int (if i < 0 then -i else i))) := rfl
@[simp] theorem b_max (S : Store) (i j : Int) : evBi S .max [.int i, .int j] = some (.v (.int (if j > i then j else i))) := rfl
@[simp] theorem b_min (S : Store) (i j : Int) : evBi S .min [.int i, .int j] = some (.v (.int (if j < i then j else i))) := rfl
@[simp] theorem b_len (S : Store) (p : PV) : evBi S .len [p] = (seqOf S p).map fun xs => .v (.int xs.length) := rfl
@[simp] theorem b_tuple (S : Store) (p : PV) : evBi S .tuple [p] = (seqOf S p).map fun xs => .v (.tup xs) := rfl
@[simp] theorem b_list (S : Store) (p : PV) : evBi S .list [p] = (seqOf S p).map fun xs => .f (.lst xs) := rfl
@[simp] theorem sq_tup (S : Store) (xs : List PV) : seqOf S (.tup xs) = some xs := rfl
@[simp] theorem sq_lst (S : Store) (xs : List PV) : seqOf S (.lst xs) = some xs := rfl
@[simp] theorem sq_slst (S : Store) (xs : List PV) : seqOf S (.slst xs) = some xs := rfl
@[simp] theorem sq_loc (S : Store) (k : Nat) : seqOf S (.loc k) = match S[k]? with
    | some (.lst xs) => some xs
    | none => none := rfl
def oI (xs : List PV) (i : Int) : Option PV := match place xs.length i with
  | some j => xs[j]?
  | none => none
@[simp] theorem idx_int (S : Store) (p : PV) (i : Int) : evIdx S p (.int i) = (seqOf S p).bind fun xs => oI xs i := by
  unfold evIdx
  cases seqOf S p <;> rfl
theorem oI_nat (xs : List PV) (j : Nat) : oI xs (j : Int) = xs[j]? := by
  unfold oI place
  by_cases h : j < xs.length
  · simp [h]
  · simp [h]
@[simp] theorem oI_0 (x : PV) (xs : List PV) : oI (x :: xs) 0 = some x := by
  have := oI_nat (x :: xs) 0
  simpa using this
@[simp] theorem oI_1 (x y : PV) (xs : List PV) : oI (x :: y :: xs) 1 = some y := by
  have := oI_nat (x :: y :: xs) 1
  simpa using this
@[simp] theorem oI_2 (x y z : PV) (xs : List PV) : oI (x :: y :: z :: xs) 2 = some z := by
  have := oI_nat (x :: y :: z :: xs) 2
  simpa using this
def oP (n0 : Nat) (S : Store) (k : Nat) (v : PV) (xs : List PV) (i : Int) : Option Store := match place xs.length i with
  | some m => if mayHold n0 k v then some (S.set k (.lst (xs.set m v))) else none
  | none => none
@[simp] theorem put_loc (n0 k : Nat) (S : Store) (i : Int) (v : PV) : Ip.putAt n0 S (.loc k) (.int i) v = match S[k]? with
    | some (.lst xs) => oP n0 S k v xs i
    | none => none := rfl
theorem oP_nat {n0 k j : Nat} {S : Store} {v : PV} {xs : List PV} (h : j < xs.length) : oP n0 S k v xs (j : Int) = if mayHold n0 k v then some (S.set k (.lst (xs.set j v))) else none := by
  unfold oP place
  simp [h]
@[simp] theorem oP_0 (n0 k : Nat) (S : Store) (v x : PV) (xs : List PV) : oP n0 S k v (x :: xs) 0 = if mayHold n0 k v then some (S.set k (.lst (v :: xs))) else none := by
  have := @oP_nat n0 k 0 S v (x :: xs) (by simp)
  simpa using this
@[simp] theorem oP_1 (n0 k : Nat) (S : Store) (v x y : PV) (xs : List PV) : oP n0 S k v (x :: y :: xs) 1 = if mayHold n0 k v then some (S.set k (.lst (x :: v :: xs))) else none := by
  have := @oP_nat n0 k 1 S v (x :: y :: xs) (by simp)
  simpa using this
@[simp] theorem oP_2 (n0 k : Nat) (S : Store) (v x y z : PV) (xs : List PV) : oP n0 S k v (x :: y :: z :: xs) 2 = if mayHold n0 k v then some (S.set k (.lst (x :: y :: v :: xs))) else none := by
  have := @oP_nat n0 k 2 S v (x :: y :: z :: xs) (by simp)
  simpa using this
@[simp] theorem mh_int (n0 k : Nat) (i : Int) : mayHold n0 k (.int i) = true := by simp [mayHold, PV.pure]
@[simp] theorem pu_int (i : Int) : PV.pure (.int i) = true := by simp [PV.pure]
@[simp] theorem pu_bl (i : Bool) : PV.pure (.bl i) = true := by simp [PV.pure]
@[simp] theorem pu_str (i : Str) : PV.pure (.str i) = true := by simp [PV.pure]
@[simp] theorem pu_non : PV.pure .non = true := by simp [PV.pure]
@[simp] theorem bindR_v (p : PV) (S : Store) : bindR (.v p) S = (p, S) := rfl
@[simp] theorem bindR_f (c : Cell) (S : Store) : bindR (.f c) S = (.loc S.length, S ++ [c]) := rfl
@[simp] theorem closeS_rt (n0 : Nat) (r : RV) (S : Store) : closeS n0 (.rt r S) = close n0 r S := rfl
@[simp] theorem isLoc_loc (k : Nat) : isLoc (.loc k) = true := rfl
theorem close_pure {n0 : Nat} {p : PV} {S : Store} (h : p.pure = true) : close n0 (.v p) S = .ok (.v p) (S.take n0) := by
  cases p <;> (unfold close; simp [h]) <;> (simp [PV.pure] at h)
theorem close_purel {n0 : Nat} {xs : List PV} {S : Store} (h : PV.pures xs = true) : close n0 (.f (.lst xs)) S = .ok (.f (.lst xs)) (S.take n0) := by
  unfold close; simp [h]
theorem mul_l {i j : Int} (h : i.natAbs < 2 ^ 64) : mulOk i j = true := by unfold mulOk; simp [h]
theorem mul_r {i j : Int} (h : j.natAbs < 2 ^ 64) : mulOk i j = true := by unfold mulOk; simp [h]
@[simp] theorem take_set (S : Store) (k : Nat) (c : Cell) : (S.set k c).take S.length = S.set k c := by
  have h : (S.set k c).length = S.length := List.length_set
  rw [← h, List.take_length]
@[simp] theorem take_app (S T : Store) : (S ++ T).take S.length = S := by simp
theorem log2_lt {j : Int} {m : Nat} (h : j.natAbs < 2 ^ m) (h0 : 0 < m) : j.natAbs.log2 < m := by
  by_cases z : j.natAbs = 0
  · rw [z]
    simpa using h0
  · exact (Nat.log2_lt z).mpr h
/-! ### loops -/
section
variable (P : Pg) (cf : Nat → List PV → Store → Out RV) (n0 w : Nat)
/-- a for's turns, as one word -/
def fGo (tg : Tgt) (b : List IS) (p : PV) (xs : List PV) (ρ : Rho) (S : Store) : SO := forGo (fun S2 => sameSeq S2 p xs) (forStep P cf n0 w tg b) xs ρ S
def kFor (tg : Tgt) (b : List IS) (p : PV) (ρ : Rho) (S : Store) : Option (List PV) → SO
  | some xs => fGo P cf n0 w tg b p xs ρ S
  | none => .bad
@[simp] theorem kFor_some (tg : Tgt) (b : List IS) (p : PV) (ρ : Rho) (S : Store) (xs : List PV) : kFor P cf n0 w tg b p ρ S (some xs) = fGo P cf n0 w tg b p xs ρ S := rfl
@[simp] theorem ex_for (tg : Tgt) (it : IE) (b : List IS) (ρ : Rho) (S : Store) : execS P cf n0 w (.for_ tg it b) ρ S = SO.on (evalE P cf n0 it ρ S) ρ fun p S1 => kFor P cf n0 w tg b p.fz ρ S1 (seqOf S1 p.fz) := by
  rw [execS]; congr
/-- a comprehension's turns -/
def cGo (own : List Nat) (tg : Tgt) (cond : Option IE) (elt : IE) (ρ : Rho) (p : PV) (xs : List PV) (S : Store) : Out RV := match compGo (compStep P cf n0 own tg cond elt ρ p xs) xs S with
  | .ok ys S2 => if sameSeq S2 p xs then .ok (.f (.lst ys)) S2 else .bad
  | _ => .bad
def kCp (own : List Nat) (tg : Tgt) (cond : Option IE) (elt : IE) (ρ : Rho) (p : PV) (S : Store) : Option (List PV) → Out RV
  | some xs => cGo P cf n0 own tg cond elt ρ p xs S
  | none => .bad
@[simp] theorem kCp_some (own : List Nat) (tg : Tgt) (cond : Option IE) (elt : IE) (ρ : Rho) (p : PV) (S : Store) (xs : List PV) : kCp P cf n0 own tg cond elt ρ p S (some xs) = cGo P cf n0 own tg cond elt ρ p xs S := rfl
@[simp] theorem ev_comp (own : List Nat) (tg : Tgt) (it elt : IE) (cond : Option IE) (ρ : Rho) (S : Store) : evalE P cf n0 (.comp own tg it cond elt) ρ S = (evalE P cf n0 it ρ S).th fun p S1 => kCp P cf n0 own tg cond elt ρ p.fz S1 (seqOf S1 p.fz) := by
  rw [evalE_comp]; congr
end
section
variable {P : Pg} {cf : Nat → List PV → Store → Out RV} {n0 w : Nat} {tg : Tgt} {b : List IS} {p : PV} {xs : List PV} {ρ : Rho} {S : Store}
def Held (p : PV) (xs : List PV) : Prop := ∀ S : Store, sameSeq S p xs = true
theorem held_lst : Held (.lst xs) xs := fun S => PV.sames_self xs
theorem held_tup : Held (.tup xs) xs := fun S => PV.sames_self xs
theorem held_slst : Held (.slst xs) xs := fun S => PV.sames_self xs
theorem fGo_list (I : List PV → Rho → Store → Prop) (hp : Held p xs) (h0 : I xs ρ S) (hs : ∀ x r ρ S, I (x :: r) ρ S → ∃ ρ1 ρ2 S2, Tgt.set tg x ρ = some ρ1 ∧ execSs P cf n0 w b ρ1 S = .nx ρ2 S2 ∧ I r ρ2 S2) : ∃ ρ' S', fGo P cf n0 w tg b p xs ρ S = .nx ρ' S' ∧ I [] ρ' S' := by
  have key : ∀ (r : List PV) (ρ : Rho) (S : Store), I r ρ S → ∃ ρ' S', forGo (fun S2 => sameSeq S2 p xs) (forStep P cf n0 w tg b) r ρ S = .nx ρ' S' ∧ I [] ρ' S' := by
    intro r
    induction r with
    | nil => exact fun ρ S h => ⟨ρ, S, by simp [forGo, hp S], h⟩
    | cons x r ih =>
      intro ρ S h
      obtain ⟨ρ1, ρ2, S2, e1, e2, h2⟩ := hs x r ρ S h
      obtain ⟨ρ3, S3, e3, h3⟩ := ih ρ2 S2 h2
      exact ⟨ρ3, S3, by simp [forGo, hp S, forStep, e1, e2, e3], h3⟩
  exact key xs ρ S h0
theorem rngs_cons (lo : Int) (n : Nat) : rngs lo (n + 1) = .int lo :: rngs (lo + 1) n := by
  show (List.range (n + 1)).map _ = _ :: (List.range n).map _
  rw [List.range_succ_eq_map, List.map_cons, List.map_map]  -- so
  simp only [Int.natCast_zero, Int.add_zero, List.cons.injEq, true_and]
  apply List.map_congr_left
  intro i _
  simp only [Function.comp]
  congr 1
  omega
theorem fGo_rng (I : Nat → Rho → Store → Prop) (n : Nat) (h0 : I 0 ρ S) (hs : ∀ i ρ S, i < n → I i ρ S → ∃ ρ1 ρ2 S2, Tgt.set tg (.int i) ρ = some ρ1 ∧ execSs P cf n0 w b ρ1 S = .nx ρ2 S2 ∧ I (i + 1) ρ2 S2) :
    ∃ ρ' S', fGo P cf n0 w tg b (.lst (rngs 0 n)) (rngs 0 n) ρ S = .nx ρ' S' ∧ I n ρ' S' := by
  obtain ⟨ρ', S', e, h⟩ := fGo_list (P := P) (cf := cf) (n0 := n0) (w := w) (tg := tg) (b := b) (p := .lst (rngs 0 n)) (xs := rngs 0 n) (ρ := ρ) (S := S) (fun r ρ S => ∃ i m : Nat, i + m = n ∧ r = rngs i m ∧ I i ρ S) held_lst ⟨0, n, by omega, rfl, h0⟩ fun x r ρ S h => by
    obtain ⟨i, m, e1, e2, h⟩ := h
    cases m with
    | zero => cases e2
    | succ m =>
      rw [rngs_cons] at e2
      cases e2
      obtain ⟨ρ1, ρ2, S2, a1, a2, a3⟩ := hs i ρ S (by omega) h
      exact ⟨ρ1, ρ2, S2, a1, a2, i + 1, m, by omega, by rw [Int.natCast_add]; rfl, a3⟩
  obtain ⟨i, m, e1, e2, h⟩ := h
  cases m with
  | zero =>
    obtain rfl : i = n := by omega
    exact ⟨ρ', S', e, h⟩
  | succ m =>
    rw [rngs_cons] at e2
    cases e2
variable {own : List Nat} {cond : Option IE} {elt : IE}
theorem cGo_list (I : List PV → List PV → Store → Prop) (hp : Held p xs) (h0 : I xs [] S) (hs : ∀ x r ys S, I (x :: r) ys S → ∃ ρ1 t S1, Tgt.set tg x (wipeE ρ own) = some ρ1 ∧ evalC P cf n0 cond ρ1 S = .ok t S1 ∧
    (t = true → ∃ y S2, evalE P cf n0 elt ρ1 S1 = .ok y S2 ∧ I r (ys ++ [y.fz]) S2) ∧ (t = false → I r ys S1)) : ∃ ys S', cGo P cf n0 own tg cond elt ρ p xs S = .ok (.f (.lst ys)) S' ∧ I [] ys S' := by
  have key : ∀ (r ys : List PV) (S : Store), I r ys S → ∃ zs S', compGo (compStep P cf n0 own tg cond elt ρ p xs) r S = .ok zs S' ∧ I [] (ys ++ zs) S' := by
    intro r
    induction r with
    | nil => exact fun ys S h => ⟨[], S, rfl, by simpa using h⟩
    | cons x r ih =>
      intro ys S h
      obtain ⟨ρ1, t, S1, e1, e2, h1, h2⟩ := hs x r ys S h
      cases t with
      | true =>
        obtain ⟨y, S2, e3, h3⟩ := h1 rfl
        obtain ⟨zs, S3, e4, h4⟩ := ih _ S2 h3
        refine ⟨y.fz :: zs, S3, ?_, by simpa using h4⟩
        simp [compGo, compStep, hp S, e1, e2, e3, e4]
      | false =>
        obtain ⟨zs, S3, e4, h4⟩ := ih _ S1 (h2 rfl)
        refine ⟨zs, S3, ?_, h4⟩
        simp [compGo, compStep, hp S, e1, e2, e4]
  obtain ⟨zs, S', e, h⟩ := key xs [] S h0
  refine ⟨zs, S', ?_, by simpa using h⟩
  unfold cGo
  rw [e]
  simp [hp S']
/-- the store stays -/
theorem cGo_map (f : PV → Option PV) (hp : sameSeq S p xs = true) (hs : ∀ x ∈ xs, ∃ ρ1 t, Tgt.set tg x (wipeE ρ own) = some ρ1 ∧ evalC P cf n0 cond ρ1 S = .ok t S ∧ (t = true → ∃ y, evalE P cf n0 elt ρ1 S = .ok y S ∧ f x = some y.fz) ∧ (t = false → f x = none)) :
    cGo P cf n0 own tg cond elt ρ p xs S = .ok (.f (.lst (xs.filterMap f))) S := by
  have key : ∀ r : List PV, (∀ x ∈ r, x ∈ xs) → compGo (compStep P cf n0 own tg cond elt ρ p xs) r S = .ok (r.filterMap f) S := by
    intro r
    induction r with
    | nil => exact fun _ => rfl
    | cons x r ih =>
      intro hr
      obtain ⟨ρ1, t, e1, e2, h1, h2⟩ := hs x (hr x List.mem_cons_self)
      have e4 := ih fun y hy => hr y (List.mem_cons_of_mem _ hy)
      cases t with
      | true =>
        obtain ⟨y, e3, h3⟩ := h1 rfl
        simp [compGo, compStep, hp, e1, e2, e3, e4, h3]
      | false => simp [compGo, compStep, hp, e1, e2, e4, h2 rfl]
  unfold cGo
  rw [key xs fun _ h => h]
  simp [hp]
end
/-! ### methods of lists, places at the end of the store -/
def oPop (S : Store) (k : Nat) (xs : List PV) (i : Int) : Option (PV × Store) := if -(2 ^ 63) ≤ i ∧ i < 2 ^ 63 then (match place xs.length i with
        | some j => match xs[j]? with
          | some y => some (y, S.set k (.lst (xs.eraseIdx j)))
          | none => none
        | none => none) else none
@[simp] theorem me_pop (n0 k : Nat) (S : Store) (i : Int) : evMe n0 S .popAt (.loc k) [.int i] = match S[k]? with
    | some (.lst xs) => oPop S k xs i
    | none => none := rfl
@[simp] theorem me_app (n0 k : Nat) (S : Store) (p : PV) : evMe n0 S .append (.loc k) [p] = match S[k]? with
    | some (.lst xs) => if xs.length < big ∧ mayHold n0 k p then some (.non, S.set k (.lst (xs ++ [p]))) else none
    | none => none := rfl
@[simp] theorem me_ext (n0 k : Nat) (S : Store) (ys : List PV) : evMe n0 S .extend (.loc k) [.lst ys] = match S[k]? with
    | some (.lst xs) => if xs.length + ys.length ≤ big ∧ ys.all (mayHold n0 k) then some (.non, S.set k (.lst (xs ++ ys))) else none
    | none => none := rfl
theorem oPop_at {S : Store} {k : Nat} {xs : List PV} {i : Int} (h0 : 0 ≤ i) (h1 : i < xs.length) (h2 : xs.length ≤ big) : ∃ (j : Nat) (y : PV), xs[j]? = some y ∧ j < xs.length ∧ oPop S k xs i = some (y, S.set k (.lst (xs.eraseIdx j))) := by
  have hj : i.toNat < xs.length := by omega
  refine ⟨i.toNat, xs[i.toNat], List.getElem?_eq_getElem hj, hj, ?_⟩
  have hb : (big : Nat) = 16777216 := rfl
  unfold oPop place
  rw [if_pos (by constructor <;> omega), if_pos h0, if_pos h1]
  simp [hj]
theorem mh_new {n0 k : Nat} {p : PV} (h : n0 ≤ k) : mayHold n0 k p = true := by simp [mayHold, h]
theorem get_0 {A T : Store} {x : Cell} {n : Nat} (h : A.length = n) : (A ++ x :: T)[n]? = some x := by rw [← h]; simp
theorem get_1 {A T : Store} {x y : Cell} {n : Nat} (h : A.length = n) : (A ++ x :: y :: T)[n + 1]? = some y := by rw [← h]; simp
theorem set_0 {A T : Store} {x z : Cell} {n : Nat} (h : A.length = n) : (A ++ x :: T).set n z = A ++ z :: T := by rw [← h]; simp
theorem set_1 {A T : Store} {x y z : Cell} {n : Nat} (h : A.length = n) : (A ++ x :: y :: T).set (n + 1) z = A ++ x :: z :: T := by rw [← h, List.set_append_right _ _ (by omega)]; simp
theorem get_low {A T : Store} {k : Nat} {x : Cell} (h : A[k]? = some x) : (A ++ T)[k]? = some x := by
  rw [List.getElem?_append_left (List.getElem?_eq_some_iff.mp h).1]
  exact h
theorem set_low {A T : Store} {k : Nat} {x z : Cell} (h : A[k]? = some x) : (A ++ T).set k z = A.set k z ++ T := List.set_append_left _ _ (List.getElem?_eq_some_iff.mp h).1
theorem take_low {A T : Store} {n : Nat} (h : A.length = n) : (A ++ T).take n = A := by rw [← h]; simp
mutual
theorem subst_pure {g : Nat → Option PV} : ∀ p : PV, p.pure = true → p.subst g = some p
  | .non, _ => rfl
  | .bl _, _ => rfl
  | .int _, _ => rfl
  | .str _, _ => rfl
  | .tup xs, h => by simp only [PV.subst, substs_pure xs (by simpa only [PV.pure] using h), Option.map_some]
  | .lst xs, h => by simp only [PV.subst, substs_pure xs (by simpa only [PV.pure] using h), Option.map_some]
  | .slst xs, h => by simp only [PV.subst, substs_pure xs (by simpa only [PV.pure] using h), Option.map_some]
  | .dct ks vs, h => by simp only [PV.subst, substs_pure vs (by simp only [PV.pure, Bool.and_eq_true] at h; exact h.2), Option.map_some]
  | .loc _, h => by simp [PV.pure] at h
  | .exc _ v, h => by simp only [PV.subst, subst_pure v (by simpa only [PV.pure] using h), Option.map_some]
theorem substs_pure {g : Nat → Option PV} : ∀ ps : List PV, PV.pures ps = true → PV.substs g ps = some ps
  | [], _ => rfl
  | p :: ps, h => by
    simp only [PV.pures, Bool.and_eq_true] at h
    simp only [PV.substs, subst_pure p h.1, substs_pure ps h.2]
end
/-- a list of a cell of one's own leaves, its items pure -/
theorem close_loc {n0 k : Nat} {S : Store} {xs : List PV} (h : S[k]? = some (.lst xs)) (hk : n0 ≤ k) (hp : PV.pures xs = true) : close n0 (.v (.loc k)) S = .ok (.f (.lst xs)) (S.take n0) := by
  unfold close
  simp [PV.pure, Nat.not_lt.mpr hk, h, substs_pure xs hp]
theorem pures_all {xs : List PV} : PV.pures xs = true ↔ ∀ x ∈ xs, x.pure = true := by
  induction xs with
  | nil => simp [PV.pures]
  | cons x xs ih => simp [PV.pures, ih]
theorem call_fn {P : Pg} {w n f : Nat} {fn : Fn} {args : List PV} {S : Store} (h : P.fns f = some fn) (hl : args.length = fn.params) : callF P w (n + 1) f args S = closeS S.length (execSs P (callF P w n) S.length w fn.body (args.map some ++ List.replicate (fn.slots - fn.params) none) S) := by
  rw [callF]
  simp [h, hl]
theorem set_same {S : Store} {k : Nat} {x : Cell} (h : S[k]? = some x) : S.set k x = S := by
  apply List.ext_getElem?
  intro i
  by_cases e : i = k
  · subst e
    rw [List.getElem?_set_self (List.getElem?_eq_some_iff.mp h).1, h]
  · rw [List.getElem?_set_ne (Ne.symm e)]
theorem erase_perm : ∀ (l : List PV) (j : Nat) (y : PV), l[j]? = some y → (y :: l.eraseIdx j).Perm l
  | [], _, _, h => by simp at h
  | x :: l, 0, y, h => by
    obtain rfl : x = y := by simpa using h
    simp
  | x :: l, j + 1, y, h => by
    rw [List.eraseIdx_cons_succ]
    exact (List.Perm.swap x y _).trans ((erase_perm l j y (by simpa using h)).cons x)
theorem same_loc {S : Store} {k : Nat} {xs : List PV} (h : S[k]? = some (.lst xs)) : sameSeq S (.loc k) xs = true := by
  unfold sameSeq
  rw [sq_loc, h]
  exact PV.sames_self xs
theorem bin_rep {S : Store} {xs : List PV} {k : Int} (h : -(2 ^ 63) ≤ k ∧ k < 2 ^ 63 ∧ xs.length * k.toNat ≤ big) : evBin S .mul (.lst xs) (.int k) = some (.f (.lst ((List.replicate k.toNat xs).flatten))) := by
  have e0 : evBin S .mul (.lst xs) (.int k) = if Bop.mul = .mul ∧ isLs (PV.lst xs) = true then (match seqOf S (.lst xs) with
      | some xs => if -(2 ^ 63) ≤ k ∧ k < 2 ^ 63 ∧ xs.length * k.toNat ≤ big then some (.f (.lst ((List.replicate k.toNat xs).flatten))) else none
      | none => none) else none := rfl
  rw [e0, if_pos ⟨rfl, rfl⟩, sq_lst]
  exact if_pos h
end Ip

open PySem PySem.Spec PyProof.Rows L2 Ip
/-! ### the text, as terms (printed by gen.py) -/
namespace Lk42
def txt (i : Nat) : Stmt := PySem.Challenge.pw_onesidedalike_k42_whole_errors_that_keep.main.body.getD i (.Pass ⟨0, 0, 0, 0⟩)
def flaw : Fn := ⟨1, 4, [.for_ (.name 1) (.rng [(.bi .max [(.cst (.int 1)), (.bi .min [(.cst (.int 2)), (.bi .len [(.var 0)])])])]) [.asg 2 (.call 1 [(.var 0), (.var 1)]), .ifs (.not (.bi .all [(.comp [3] (.name 3) (.rng [(.cst (.int 1))]) none (.call 2 [(.var 2)]))])) [.ret (.cst (.bl false))] []], .ret (.cst (.bl true))]⟩
def f_law_box : Fn := ⟨2, 4, [.asg 2 (.ite (.cmp .lt (.var 1) (.bi .len [(.var 0)])) (.idx (.var 0) (.var 1)) (.bin .add (.bin .mul (.cst (.int 97)) (.var 1)) (.cst (.int 59)))), .asg 3 (.bin .mul (.bin .mod (.bi .int [(.bi .abs [(.var 2)])]) (.bin .pow (.bin .pow (.cst (.int 10)) (.cst (.int 60))) (.cst (.int 5)))) (.bi .int [(.cmp .ge (.bi .abs [(.var 2)]) (.bin .pow (.cst (.int 10)) (.cst (.int 18))))])), .ret (.lst [(.var 3), (.bin .mod (.bin .add (.bin .add (.bin .mul (.bin .mod (.bi .int [(.var 2)]) (.cst (.int 2305843009213693951))) (.cst (.int 74101))) (.bin .mul (.bin .mul (.cst (.int 8111)) (.var 1)) (.var 1))) (.cst (.int 83))) (.cst (.int 2305843009213693921))), (.cst (.int 0))])]⟩
def f_law_right : Fn := ⟨1, 7, [.asg 1 (.call 3 [(.var 0), (.cst (.int 3)), (.cst (.int 3))]), .asg 2 (.lst [(.cst .non), (.tup []), (.cst (.str (Str.ofString ""))), (.cst (.int 0)), (.var 1), (.lst [(.cst (.int 1))]), (.dct1 (.cst (.str (Str.ofString "a"))) (.cst (.int 1))), (.tup [(.tup []), (.tup [])]), (.bin .pow (.cst (.int 10)) (.cst (.int 40))), (.cst (.str (Str.ofString "line")))]), .for_ (.name 3) (.call 4 [(.var 0), (.var 2), (.cst (.int 4))]) [.for_ (.tup [.name 4, .name 5]) (.call 5 [(.var 3)]) [.ifs (.or (.cmp .ne (.call 6 [(.var 5)]) (.lst [(.var 4)])) (.or (.not (.isi (.var 5) (.cls 0))) (.not (.isi (.var 5) .verr)))) [.ret (.cst (.bl false))] [], .ifs (.cmp .ne (.bi .repr [(.val (.var 5))]) (.bi .repr [(.var 3)])) [.ret (.cst (.bl false))] []]], .asg 6 (.mk 0 (.var 1)), .ret (.and (.cmp .eq (.call 6 [(.var 6)]) (.lst [])) (.and (.cmp .eq (.val (.var 6)) (.var 1)) (.isi (.var 6) .verr)))]⟩
def f_law_web : Fn := ⟨3, 9, [.asg 3 (.bin .add (.cst (.int 1)) (.call 7 [(.var 0), (.var 1)])), .asg 4 (.comp [5] (.name 5) (.rng [(.var 3)]) none (.alloc (.bin .mul (.lst [(.cst (.int 0))]) (.var 3)))), .for_ (.name 5) (.rng [(.var 3)]) [.asg 6 (.call 7 [(.var 0), (.var 3)]), .sub (.idx (.var 4) (.var 5)) (.var 6) (.bin .add (.idx (.idx (.var 4) (.var 5)) (.var 6)) (.cst (.int 1)))], .for_ (.name 7) (.rng [(.call 7 [(.var 0), (.bin .add (.var 2) (.cst (.int 1)))])]) [.par 8 6 (.call 7 [(.var 0), (.var 3)]) (.call 7 [(.var 0), (.var 3)]), .sub (.idx (.var 4) (.var 8)) (.var 6) (.bin .add (.idx (.idx (.var 4) (.var 8)) (.var 6)) (.cst (.int 1)))], .ret (.call 8 [(.var 4)])]⟩
def f_law_some : Fn := ⟨3, 3, [.ret (.sl (.call 9 [(.var 0), (.var 1)]) none (some (.var 2)))]⟩
def f_law_made : Fn := ⟨1, 2, [.asg 1 (.lst [(.tup [(.cst (.str (Str.ofString "BadChain"))), (.mk 1 (.var 0))]), (.tup [(.cst (.str (Str.ofString "BadCode"))), (.mk 2 (.var 0))]), (.tup [(.cst (.str (Str.ofString "BadEndless"))), (.mk 3 (.var 0))])]), .ex (.meth .extend (.var 1) [(.lst [(.tup [(.cst (.str (Str.ofString "BadLine"))), (.mk 4 (.var 0))]), (.tup [(.cst (.str (Str.ofString "BadLot"))), (.mk 5 (.var 0))]), (.tup [(.cst (.str (Str.ofString "BadLots"))), (.mk 6 (.var 0))])])]), .ex (.meth .extend (.var 1) [(.lst [(.tup [(.cst (.str (Str.ofString "BadName"))), (.mk 7 (.var 0))]), (.tup [(.cst (.str (Str.ofString "BadNumber"))), (.mk 8 (.var 0))]), (.tup [(.cst (.str (Str.ofString "BadOrder"))), (.mk 9 (.var 0))])])]), .ex (.meth .extend (.var 1) [(.lst [(.tup [(.cst (.str (Str.ofString "BadPlace"))), (.mk 11 (.var 0))]), (.tup [(.cst (.str (Str.ofString "BadShelf"))), (.mk 12 (.var 0))]), (.tup [(.cst (.str (Str.ofString "BadStep"))), (.mk 13 (.var 0))])])]), .ex (.meth .append (.var 1) [(.tup [(.cst (.str (Str.ofString "BadPaper"))), (.mk 10 (.var 0))])]), .ex (.meth .extend (.var 1) [(.lst [(.tup [(.cst (.str (Str.ofString "BadTable"))), (.mk 14 (.var 0))]), (.tup [(.cst (.str (Str.ofString "BadText"))), (.mk 15 (.var 0))]), (.tup [(.cst (.str (Str.ofString "BadTie"))), (.mk 16 (.var 0))])])]), .ex (.meth .extend (.var 1) [(.lst [(.tup [(.cst (.str (Str.ofString "BadWay"))), (.mk 17 (.var 0))]), (.tup [(.cst (.str (Str.ofString "BadWeb"))), (.mk 18 (.var 0))]), (.tup [(.cst (.str (Str.ofString "BadWords"))), (.mk 19 (.var 0))])])]), .ex (.meth .extend (.var 1) [(.lst [(.tup [(.cst (.str (Str.ofString "Full"))), (.mk 20 (.var 0))]), (.tup [(.cst (.str (Str.ofString "Known"))), (.mk 21 (.var 0))]), (.tup [(.cst (.str (Str.ofString "NoWay"))), (.mk 22 (.var 0))])])]), .ex (.meth .append (.var 1) [(.tup [(.cst (.str (Str.ofString "NotAlike"))), (.mk 23 (.var 0))])]), .ex (.meth .extend (.var 1) [(.lst [(.tup [(.cst (.str (Str.ofString "NotFull"))), (.mk 24 (.var 0))]), (.tup [(.cst (.str (Str.ofString "NotTwins"))), (.mk 25 (.var 0))]), (.tup [(.cst (.str (Str.ofString "NotUndone"))), (.mk 26 (.var 0))])])]), .ret (.bin .add (.var 1) (.lst [(.tup [(.cst (.str (Str.ofString "Nothing"))), (.mk 27 (.var 0))]), (.tup [(.cst (.str (Str.ofString "TooMany"))), (.mk 28 (.var 0))]), (.tup [(.cst (.str (Str.ofString "Unknown"))), (.mk 29 (.var 0))])]))]⟩
def f_law_words : Fn := ⟨1, 4, [.asg 1 (.lst [(.tup [(.cst (.str (Str.ofString "BadChain"))), (.isi (.var 0) (.cls 1))]), (.tup [(.cst (.str (Str.ofString "BadCode"))), (.isi (.var 0) (.cls 2))])]), .ex (.meth .extend (.var 1) [(.lst [(.tup [(.cst (.str (Str.ofString "BadEndless"))), (.isi (.var 0) (.cls 3))]), (.tup [(.cst (.str (Str.ofString "BadLine"))), (.isi (.var 0) (.cls 4))])])]), .ex (.meth .extend (.var 1) [(.lst [(.tup [(.cst (.str (Str.ofString "BadLot"))), (.isi (.var 0) (.cls 5))]), (.tup [(.cst (.str (Str.ofString "BadLots"))), (.isi (.var 0) (.cls 6))])])]), .ex (.meth .extend (.var 1) [(.lst [(.tup [(.cst (.str (Str.ofString "BadName"))), (.isi (.var 0) (.cls 7))]), (.tup [(.cst (.str (Str.ofString "BadNumber"))), (.isi (.var 0) (.cls 8))])])]), .ex (.meth .extend (.var 1) [(.lst [(.tup [(.cst (.str (Str.ofString "BadOrder"))), (.isi (.var 0) (.cls 9))]), (.tup [(.cst (.str (Str.ofString "BadPlace"))), (.isi (.var 0) (.cls 11))])])]), .ex (.meth .extend (.var 1) [(.lst [(.tup [(.cst (.str (Str.ofString "BadShelf"))), (.isi (.var 0) (.cls 12))]), (.tup [(.cst (.str (Str.ofString "BadStep"))), (.isi (.var 0) (.cls 13))])])]), .ex (.meth .extend (.var 1) [(.lst [(.tup [(.cst (.str (Str.ofString "BadTable"))), (.isi (.var 0) (.cls 14))]), (.tup [(.cst (.str (Str.ofString "BadText"))), (.isi (.var 0) (.cls 15))])])]), .ex (.meth .extend (.var 1) [(.lst [(.tup [(.cst (.str (Str.ofString "BadTie"))), (.isi (.var 0) (.cls 16))]), (.tup [(.cst (.str (Str.ofString "BadWay"))), (.isi (.var 0) (.cls 17))])])]), .ex (.meth .extend (.var 1) [(.lst [(.tup [(.cst (.str (Str.ofString "BadWeb"))), (.isi (.var 0) (.cls 18))]), (.tup [(.cst (.str (Str.ofString "BadWords"))), (.isi (.var 0) (.cls 19))])])]), .ex (.meth .extend (.var 1) [(.lst [(.tup [(.cst (.str (Str.ofString "Full"))), (.isi (.var 0) (.cls 20))]), (.tup [(.cst (.str (Str.ofString "Known"))), (.isi (.var 0) (.cls 21))]), (.tup [(.cst (.str (Str.ofString "NoWay"))), (.isi (.var 0) (.cls 22))])])]), .ex (.meth .extend (.var 1) [(.lst [(.tup [(.cst (.str (Str.ofString "NotAlike"))), (.isi (.var 0) (.cls 23))]), (.tup [(.cst (.str (Str.ofString "NotFull"))), (.isi (.var 0) (.cls 24))])])]), .ex (.meth .extend (.var 1) [(.lst [(.tup [(.cst (.str (Str.ofString "NotTwins"))), (.isi (.var 0) (.cls 25))]), (.tup [(.cst (.str (Str.ofString "NotUndone"))), (.isi (.var 0) (.cls 26))])])]), .ex (.meth .extend (.var 1) [(.lst [(.tup [(.cst (.str (Str.ofString "Nothing"))), (.isi (.var 0) (.cls 27))]), (.tup [(.cst (.str (Str.ofString "TooMany"))), (.isi (.var 0) (.cls 28))])])]), .ex (.meth .extend (.var 1) [(.lst [(.tup [(.cst (.str (Str.ofString "Unknown"))), (.isi (.var 0) (.cls 29))]), (.tup [(.cst (.str (Str.ofString "BadPaper"))), (.isi (.var 0) (.cls 10))])])]), .ret (.comp [2, 3] (.tup [.name 2, .name 3]) (.var 1) (some (.var 3)) (.var 2))]⟩
def f_law_take : Fn := ⟨2, 4, [.ifs (.cmp .gt (.idx (.var 0) (.cst (.int 0))) (.cst (.int 0))) [.asg 2 (.bin .mod (.bi .int [(.idx (.var 0) (.cst (.int 0)))]) (.var 1)), .sub (.var 0) (.cst (.int 0)) (.bin .fdiv (.idx (.var 0) (.cst (.int 0))) (.var 1)), .ret (.var 2)] [], .sub (.var 0) (.cst (.int 2)) (.bin .add (.idx (.var 0) (.cst (.int 2))) (.cst (.int 1))), .asg 3 (.bin .mod (.bin .mul (.bi .int [(.bin .add (.bin .add (.idx (.var 0) (.cst (.int 1))) (.bin .mul (.bin .mul (.cst (.int 87613)) (.idx (.var 0) (.cst (.int 2)))) (.idx (.var 0) (.cst (.int 2))))) (.cst (.int 41)))]) (.cst (.int 61657))) (.cst (.int 2305843009213693921))), .asg 3 (.bin .mod (.bin .mul (.var 3) (.bin .add (.bin .mod (.var 3) (.cst (.int 1000231))) (.bin .mul (.cst (.int 91009)) (.idx (.var 0) (.cst (.int 2)))))) (.cst (.int 2305843009213693907))), .ret (.bin .mod (.bi .int [(.bin .add (.bin .fdiv (.var 3) (.cst (.int 149))) (.bin .fdiv (.var 3) (.cst (.int 1000159))))]) (.var 1))]⟩
def f_law_frozen : Fn := ⟨1, 2, [.ret (.bi .tuple [(.comp [1] (.name 1) (.var 0) none (.bi .tuple [(.var 1)]))])]⟩
def f_law_mixed : Fn := ⟨2, 5, [.par 2 3 (.bi .list [(.var 1)]) (.lst []), .for_ (.name 4) (.rng [(.bi .len [(.var 1)])]) [.ex (.meth .append (.var 3) [(.meth .popAt (.var 2) [(.call 7 [(.var 0), (.bi .len [(.var 2)])])])])], .ret (.var 3)]⟩
def fns : List (Str × Fn) := [(Str.ofString "law", flaw), (Str.ofString "_law_box", f_law_box), (Str.ofString "_law_right", f_law_right), (Str.ofString "_law_web", f_law_web), (Str.ofString "_law_some", f_law_some), (Str.ofString "_law_made", f_law_made), (Str.ofString "_law_words", f_law_words), (Str.ofString "_law_take", f_law_take), (Str.ofString "_law_frozen", f_law_frozen), (Str.ofString "_law_mixed", f_law_mixed)]
def cls : List (Str × List Nat) := [(Str.ofString "WebError", [0]), (Str.ofString "BadChain", [1, 0]), (Str.ofString "BadCode", [2, 0]), (Str.ofString "BadEndless", [3, 0]), (Str.ofString "BadLine", [4, 0]), (Str.ofString "BadLot", [5, 0]), (Str.ofString "BadLots", [6, 0]), (Str.ofString "BadName", [7, 0]), (Str.ofString "BadNumber", [8, 0]), (Str.ofString "BadOrder", [9, 0]), (Str.ofString "BadPaper", [10, 0]), (Str.ofString "BadPlace", [11, 0]), (Str.ofString "BadShelf", [12, 0]), (Str.ofString "BadStep", [13, 0]), (Str.ofString "BadTable", [14, 0]), (Str.ofString "BadText", [15, 0]), (Str.ofString "BadTie", [16, 0]), (Str.ofString "BadWay", [17, 0]), (Str.ofString "BadWeb", [18, 0]), (Str.ofString "BadWords", [19, 0]), (Str.ofString "Full", [20, 0]), (Str.ofString "Known", [21, 0]), (Str.ofString "NoWay", [22, 0]), (Str.ofString "NotAlike", [23, 0]), (Str.ofString "NotFull", [24, 0]), (Str.ofString "NotTwins", [25, 0]), (Str.ofString "NotUndone", [26, 0]), (Str.ofString "Nothing", [27, 0]), (Str.ofString "TooMany", [28, 0]), (Str.ofString "Unknown", [29, 0])]
def gls : List (Str × Int) := []
def T : Tab := ⟨fun f => (fns[f]?).map (·.1), fun c => (cls[c]?).map (·.1), fun g => (gls[g]?).map (·.1)⟩
def P : Pg := ⟨fun f => (fns[f]?).map (·.2), subOf cls, fun g => (gls[g]?).map (·.2)⟩
theorem sclaw : FnScope [Str.ofString "script", Str.ofString "k", Str.ofString "box", Str.ofString "turn"] [Str.ofString "script"] (defScope (txt 41)) := ⟨rfl, rfl, rfl, by decide +kernel, rfl, by decide +kernel, by decide +kernel⟩
theorem oklaw : okSs (okS T [Str.ofString "script", Str.ofString "k", Str.ofString "box", Str.ofString "turn"] 60 (defScope (txt 41)).names 40) flaw.body (defBody (txt 41)) = true := by decide +kernel
theorem sc_law_box : FnScope [Str.ofString "script", Str.ofString "k", Str.ofString "digits", Str.ofString "own"] [Str.ofString "script", Str.ofString "k"] (defScope (txt 32)) := ⟨rfl, rfl, rfl, by decide +kernel, rfl, by decide +kernel, by decide +kernel⟩
theorem ok_law_box : okSs (okS T [Str.ofString "script", Str.ofString "k", Str.ofString "digits", Str.ofString "own"] 60 (defScope (txt 32)).names 40) f_law_box.body (defBody (txt 32)) = true := by decide +kernel
theorem sc_law_right : FnScope [Str.ofString "box", Str.ofString "web", Str.ofString "values", Str.ofString "value", Str.ofString "word", Str.ofString "one", Str.ofString "plain"] [Str.ofString "box"] (defScope (txt 40)) := ⟨rfl, rfl, rfl, by decide +kernel, rfl, by decide +kernel, by decide +kernel⟩
theorem ok_law_right : okSs (okS T [Str.ofString "box", Str.ofString "web", Str.ofString "values", Str.ofString "value", Str.ofString "word", Str.ofString "one", Str.ofString "plain"] 60 (defScope (txt 40)).names 40) f_law_right.body (defBody (txt 40)) = true := by decide +kernel
theorem sc_law_web : FnScope [Str.ofString "box", Str.ofString "places", Str.ofString "more", Str.ofString "many", Str.ofString "rows", Str.ofString "place", Str.ofString "to", Str.ofString "lap", Str.ofString "one"] [Str.ofString "box", Str.ofString "places", Str.ofString "more"] (defScope (txt 37)) := ⟨rfl, rfl, rfl, by decide +kernel, rfl, by decide +kernel, by decide +kernel⟩
theorem ok_law_web : okSs (okS T [Str.ofString "box", Str.ofString "places", Str.ofString "more", Str.ofString "many", Str.ofString "rows", Str.ofString "place", Str.ofString "to", Str.ofString "lap", Str.ofString "one"] 60 (defScope (txt 37)).names 40) f_law_web.body (defBody (txt 37)) = true := by decide +kernel
theorem sc_law_some : FnScope [Str.ofString "box", Str.ofString "some", Str.ofString "many"] [Str.ofString "box", Str.ofString "some", Str.ofString "many"] (defScope (txt 35)) := ⟨rfl, rfl, rfl, by decide +kernel, rfl, by decide +kernel, by decide +kernel⟩
theorem ok_law_some : okSs (okS T [Str.ofString "box", Str.ofString "some", Str.ofString "many"] 60 (defScope (txt 35)).names 40) f_law_some.body (defBody (txt 35)) = true := by decide +kernel
theorem sc_law_made : FnScope [Str.ofString "value", Str.ofString "found"] [Str.ofString "value"] (defScope (txt 38)) := ⟨rfl, rfl, rfl, by decide +kernel, rfl, by decide +kernel, by decide +kernel⟩
theorem ok_law_made : okSs (okS T [Str.ofString "value", Str.ofString "found"] 60 (defScope (txt 38)).names 40) f_law_made.body (defBody (txt 38)) = true := by decide +kernel
theorem sc_law_words : FnScope [Str.ofString "one", Str.ofString "rows", Str.ofString "word", Str.ofString "is_it"] [Str.ofString "one"] (defScope (txt 39)) := ⟨rfl, rfl, rfl, by decide +kernel, rfl, by decide +kernel, by decide +kernel⟩
theorem ok_law_words : okSs (okS T [Str.ofString "one", Str.ofString "rows", Str.ofString "word", Str.ofString "is_it"] 60 (defScope (txt 39)).names 40) f_law_words.body (defBody (txt 39)) = true := by decide +kernel
theorem sc_law_take : FnScope [Str.ofString "box", Str.ofString "many", Str.ofString "digit", Str.ofString "drawn"] [Str.ofString "box", Str.ofString "many"] (defScope (txt 33)) := ⟨rfl, rfl, rfl, by decide +kernel, rfl, by decide +kernel, by decide +kernel⟩
theorem ok_law_take : okSs (okS T [Str.ofString "box", Str.ofString "many", Str.ofString "digit", Str.ofString "drawn"] 60 (defScope (txt 33)).names 40) f_law_take.body (defBody (txt 33)) = true := by decide +kernel
theorem sc_law_frozen : FnScope [Str.ofString "rows", Str.ofString "row"] [Str.ofString "rows"] (defScope (txt 36)) := ⟨rfl, rfl, rfl, by decide +kernel, rfl, by decide +kernel, by decide +kernel⟩
theorem ok_law_frozen : okSs (okS T [Str.ofString "rows", Str.ofString "row"] 60 (defScope (txt 36)).names 40) f_law_frozen.body (defBody (txt 36)) = true := by decide +kernel
theorem sc_law_mixed : FnScope [Str.ofString "box", Str.ofString "some", Str.ofString "left", Str.ofString "found", Str.ofString "lap"] [Str.ofString "box", Str.ofString "some"] (defScope (txt 34)) := ⟨rfl, rfl, rfl, by decide +kernel, rfl, by decide +kernel, by decide +kernel⟩
theorem ok_law_mixed : okSs (okS T [Str.ofString "box", Str.ofString "some", Str.ofString "left", Str.ofString "found", Str.ofString "lap"] 60 (defScope (txt 34)).names 40) f_law_mixed.body (defBody (txt 34)) = true := by decide +kernel
end Lk42

open PySem PySem.Spec PyProof.Rows L2 Ip
namespace Lk42
theorem P7 : P.fns 7 = some f_law_take := rfl
theorem take_ok {w n k : Nat} {S : Store} {a b c many : Int} (hk : S[k]? = some (.lst [.int a, .int b, .int c])) (ha : 0 ≤ a) (hb : 0 ≤ b) (hc : 0 ≤ c) (hb2 : b < 2305843009213693921) (hc2 : c < 2 ^ 60) (hm : 0 < many) (hm2 : many < 2 ^ 60) :
    ∃ r a' c' : Int, callF P w (n + 1) 7 [.loc k, .int many] S = .ok (.v (.int r)) (S.set k (.lst [.int a', .int b, .int c'])) ∧ 0 ≤ r ∧ r < many ∧ 0 ≤ a' ∧ 0 ≤ c' ∧ c' ≤ c + 1 := by
  have hk0 : k < S.length := (List.getElem?_eq_some_iff.mp hk).1
  have hl : many.natAbs.log2 < 9000 := Nat.lt_trans (log2_lt (m := 60) (by omega) (by decide)) (by decide)
  by_cases h0 : 0 < a
  · refine ⟨a % many, a / many, c, ?_, Int.emod_nonneg _ (by omega), Int.emod_lt_of_pos _ hm, Int.ediv_nonneg (by omega) (by omega), hc, by omega⟩
    simp [callF, P7, f_law_take, hk, h0, hm, hl, close_pure]
  · obtain ⟨d, hd⟩ : ∃ d, d = (b + 87613 * (c + 1) * (c + 1) + 41) * 61657 % 2305843009213693921 := ⟨_, rfl⟩
    obtain ⟨d2, hd2⟩ : ∃ d2, d2 = d * (d % 1000231 + 91009 * (c + 1)) % 2305843009213693907 := ⟨_, rfl⟩
    refine ⟨(d2 / 149 + d2 / 1000159) % many, a, c + 1, ?_, Int.emod_nonneg _ (by omega), Int.emod_lt_of_pos _ hm, ha, by omega, by omega⟩
    have hs : ∀ X : Cell, (S.set k X)[k]? = some X := fun X => List.getElem?_set_self hk0
    have m1 : mulOk 87613 (c + 1) = true := mul_l (by decide)
    have m2 : mulOk (87613 * (c + 1)) (c + 1) = true := mul_r (by omega)
    have m3 : mulOk (b + 87613 * (c + 1) * (c + 1) + 41) 61657 = true := mul_r (by decide)
    have m4 : mulOk d (d % 1000231 + 91009 * (c + 1)) = true := mul_l (by omega)
    have m5 : mulOk 91009 (c + 1) = true := mul_l (by decide)
    simp [callF, P7, f_law_take, hk, h0, hm, hl, close_pure, hs, (by decide +kernel : Nat.log2 149 < 9000), (by decide +kernel : Nat.log2 1000159 < 9000), m1, m2, m3, ← hd, m4, m5, ← hd2]
end Lk42

open PySem PySem.Spec PyProof.Rows L2 Ip
namespace Lk42
theorem P9 : P.fns 9 = some f_law_mixed := rfl
/-- the box at k: c draws at most -/
def Bx (S : Store) (k : Nat) (c : Int) : Prop := ∃ a b d : Int, S[k]? = some (.lst [.int a, .int b, .int d]) ∧ 0 ≤ a ∧ 0 ≤ b ∧ 0 ≤ d ∧ b < 2305843009213693921 ∧ d ≤ c
theorem take_bx {w n k : Nat} {S : Store} {c many : Int} (h : Bx S k c) (hc : c < 2 ^ 60) (hm : 0 < many) (hm2 : many < 2 ^ 60) :
    ∃ (r : Int) (X : Cell), callF P w (n + 1) 7 [.loc k, .int many] S = .ok (.v (.int r)) (S.set k X) ∧ 0 ≤ r ∧ r < many ∧ Bx (S.set k X) k (c + 1) := by
  obtain ⟨a, b, d, h1, h2, h3, h4, h5, h6⟩ := h
  obtain ⟨r, a', c', e, q1, q2, q3, q4, q5⟩ := take_ok (w := w) (n := n) h1 h2 h3 h4 h5 (by omega) hm hm2
  exact ⟨r, _, e, q1, q2, a', b, c', List.getElem?_set_self (List.getElem?_eq_some_iff.mp h1).1, q3, h3, q4, h5, by omega⟩
theorem Bx.low {S T : Store} {k : Nat} {c : Int} (h : Bx S k c) : Bx (S ++ T) k c := by
  obtain ⟨a, b, d, h1, h2⟩ := h
  exact ⟨a, b, d, get_low h1, h2⟩
theorem Bx.lt {S : Store} {k : Nat} {c : Int} (h : Bx S k c) : ∃ x, S[k]? = some x := by
  obtain ⟨a, b, d, h1, h2⟩ := h
  exact ⟨_, h1⟩
theorem Bx.up {S T : Store} {k : Nat} {c : Int} {x : Cell} (hk : S[k]? = some x) (h : Bx (S ++ T) k c) : Bx S k c := by
  obtain ⟨a, b, d, h1, h2⟩ := h
  rw [List.getElem?_append_left (List.getElem?_eq_some_iff.mp hk).1] at h1
  exact ⟨a, b, d, h1, h2⟩
def MixI (S : Store) (k : Nat) (p : PV) (c : Int) (xs : List PV) (i : Nat) (ρ : Rho) (S' : Store) : Prop := ∃ (left found : List PV) (X : Cell) (y4 : Option PV), ρ = [some (.loc k), some p, some (.loc S.length), some (.loc (S.length + 1)), y4] ∧ S' = S.set k X ++ [.lst left, .lst found] ∧ (left ++ found).Perm xs ∧ left.length + i = xs.length ∧ Bx (S.set k X) k (c + i)
theorem mixed_ok {w n k : Nat} {S : Store} {c : Int} {p : PV} {xs : List PV} (h : Bx S k c) (hc : c + xs.length < 2 ^ 60) (hp : ∀ T, seqOf (S ++ T) p = some xs) (hx : PV.pures xs = true) (hl : xs.length ≤ 1000) :
    ∃ (ys : List PV) (X : Cell), callF P w (n + 2) 9 [.loc k, p] S = .ok (.f (.lst ys)) (S.set k X) ∧ ys.Perm xs ∧ Bx (S.set k X) k (c + xs.length) := by
  obtain ⟨x0, hk⟩ := h.lt
  have hp0 : seqOf S p = some xs := by simpa using hp []
  have hb : (big : Nat) = 16777216 := rfl
  have hs0 : S.set k x0 = S := set_same hk
  have step : ∀ i ρ S', i < xs.length → MixI S k p c xs i ρ S' → ∃ ρ1 ρ2 S2, Tgt.set (.name 4) (.int i) ρ = some ρ1 ∧ execSs P (callF P w (n + 1)) S.length w [.ex (.meth .append (.var 3) [(.meth .popAt (.var 2) [(.call 7 [(.var 0), (.bi .len [(.var 2)])])])])] ρ1 S' = .nx ρ2 S2 ∧ MixI S k p c xs (i + 1) ρ2 S2 := by
    intro i ρ S' hi hI
    obtain ⟨left, found, X, y4, rfl, rfl, e3, e4, e5⟩ := hI
    have hA : ∀ X, (S.set k X).length = S.length := fun X => List.length_set
    obtain ⟨r, X2, t1, t2, t3, t4⟩ := take_bx (w := w) (n := n) (many := left.length) (e5.low (T := [.lst left, .lst found])) (by omega) (by omega) (by omega)
    obtain ⟨x1, hk1⟩ := e5.lt
    rw [set_low hk1, List.set_set] at t1 t4
    obtain ⟨j, y, j1, j2, j3⟩ := oPop_at (S := S.set k X2 ++ [.lst left, .lst found]) (k := S.length) t2 t3 (by rw [hb]; omega)
    have hf : found.length < big := by
      have := e3.length_eq
      rw [List.length_append] at this
      rw [hb]
      omega
    refine ⟨_, _, _, rfl, ?_, left.eraseIdx j, found ++ [y], X2, some (.int i), rfl, rfl, ?_, ?_, ?_⟩
    · simp [t1, get_0 (hA X), get_0 (hA X2), get_1 (hA X2), j3, set_0 (hA X2), set_1 (hA X2), hf, mh_new]
    · have q := erase_perm left j y j1
      refine List.Perm.trans ?_ e3
      rw [← List.append_assoc]
      refine (List.perm_append_comm).trans ?_
      show ((y :: left.eraseIdx j) ++ found).Perm _
      exact q.append_right _
    · rw [List.length_eraseIdx]
      simp [j2]
      omega
    · obtain ⟨x2, hk2⟩ : ∃ x2, (S.set k X2)[k]? = some x2 := ⟨X2, List.getElem?_set_self (List.getElem?_eq_some_iff.mp hk).1⟩
      have := t4.up hk2
      rw [Int.natCast_add]
      rw [← Int.add_assoc]
      exact this
  obtain ⟨ρ', S', e, left, found, X, y4, e1, e2, e3, e4, e5⟩ := fGo_rng (MixI S k p c xs) (S := S ++ [.lst xs, .lst []]) (ρ := [some (.loc k), some p, some (.loc S.length), some (.loc (S.length + 1)), none]) xs.length
    ⟨xs, [], x0, none, rfl, by rw [hs0], by simp, by simp, by rw [hs0]; simpa using h⟩ step
  have z : left.length = 0 := by omega
  obtain rfl : left = [] := List.eq_nil_of_length_eq_zero z
  refine ⟨found, X, ?_, by simpa using e3, by simpa using e5⟩
  have hf : PV.pures found = true := pures_all.mpr fun x hx' => pures_all.mp hx x ((by simpa using e3 : found.Perm xs).mem_iff.mp hx')
  have b1 : (xs.length : Int) ≤ 16777216 := by omega
  have b2 : -4611686018427387904 ≤ (xs.length : Int) := by omega
  have hA : (S.set k X).length = S.length := List.length_set
  subst e1 e2
  rw [call_fn P9 rfl]
  simp [f_law_mixed, hp0, hp, get_1, e, b1, b2, close_loc (get_1 hA) (Nat.le_succ _) hf, take_low hA]
end Lk42

open PySem PySem.Spec PyProof.Rows L2 Ip
namespace Lk42
theorem P4 : P.fns 4 = some f_law_some := rfl
theorem P8 : P.fns 8 = some f_law_frozen := rfl
theorem P3 : P.fns 3 = some f_law_web := rfl
theorem sl_lst (S : Store) (xs : List PV) (m : Nat) : evSl S (.lst xs) none (some (m : Int)) = some (.f (.lst (xs.take m))) := by
  unfold evSl
  simp only [seqOf, cut]
  have : ¬ ((m : Int) < 0) := by omega
  simp [this]
theorem some_ok {w n k m : Nat} {S : Store} {c : Int} {p : PV} {xs : List PV} (h : Bx S k c) (hc : c + xs.length < 2 ^ 60) (hp : ∀ T, seqOf (S ++ T) p = some xs) (hx : PV.pures xs = true) (hl : xs.length ≤ 1000) :
    ∃ (ys : List PV) (X : Cell), callF P w (n + 3) 4 [.loc k, p, .int m] S = .ok (.f (.lst ys)) (S.set k X) ∧ (∀ y ∈ ys, y ∈ xs) ∧ Bx (S.set k X) k (c + xs.length) := by
  obtain ⟨ys, X, e, h1, h2⟩ := mixed_ok (w := w) (n := n) h hc hp hx hl
  have hf : PV.pures (ys.take m) = true := pures_all.mpr fun x hx' => pures_all.mp hx x (h1.mem_iff.mp (List.mem_of_mem_take hx'))
  refine ⟨ys.take m, X, ?_, fun y hy => h1.mem_iff.mp (List.mem_of_mem_take hy), h2⟩
  rw [call_fn P4 rfl]
  simp [f_law_some, e, sl_lst, close_purel hf]
/-! ### a web being made -/
abbrev row (r : List Int) : Cell := .lst (r.map PV.int)
abbrev Rows (R : List (List Int)) : Store := R.map row
abbrev Lc (n0 m : Nat) : List PV := (List.range m).map fun i => PV.loc (n0 + i)
theorem g_row {A T : Store} {R : List (List Int)} {n0 i : Nat} {r : List Int} (h : A.length = n0) (hr : R[i]? = some r) : (A ++ (Rows R ++ T))[n0 + i]? = some (row r) := by
  have hi := (List.getElem?_eq_some_iff.mp hr).1
  rw [List.getElem?_append_right (by omega), show n0 + i - A.length = i by omega, List.getElem?_append_left (by simpa using hi), List.getElem?_map, hr]
  rfl
theorem g_tab {A T : Store} {R : List (List Int)} {n0 m : Nat} {L : Cell} (h : A.length = n0) (hm : R.length = m) : (A ++ (Rows R ++ L :: T))[n0 + m]? = some L := by
  rw [List.getElem?_append_right (by omega), show n0 + m - A.length = m by omega, List.getElem?_append_right (by simp [hm]), List.length_map, hm, Nat.sub_self]
  rfl
theorem s_row {A T : Store} {R : List (List Int)} {n0 i : Nat} {r : List Int} (h : A.length = n0) (hi : i < R.length) : (A ++ (Rows R ++ T)).set (n0 + i) (row r) = A ++ (Rows (R.set i r) ++ T) := by
  rw [List.set_append_right _ _ (by omega), show n0 + i - A.length = i by omega, List.set_append_left _ _ (by simpa using hi)]
  congr 2
  exact (List.map_set).symm
theorem lc_at {n0 m i : Nat} (h : i < m) : oI (Lc n0 m) (i : Int) = some (.loc (n0 + i)) := by
  rw [oI_nat]
  simp [h]
theorem row_at {r : List Int} {j : Nat} {v : Int} (h : r[j]? = some v) : oI (r.map PV.int) (j : Int) = some (.int v) := by
  rw [oI_nat, List.getElem?_map, h]
  rfl
/-- rows[i][j] = rows[i][j] + 1 -/
theorem inc_ok {cf : Nat → List PV → Store → Out RV} {w n0 m i j x y : Nat} {A : Store} {R : List (List Int)} {r : List Int} {v : Int} {ρ : Rho} (hA : A.length = n0) (hm : R.length = m) (h4 : ρ[4]? = some (some (.loc (n0 + m)))) (hx : ρ[x]? = some (some (.int i))) (hy : ρ[y]? = some (some (.int j)))
    (hr : R[i]? = some r) (hv : r[j]? = some v) : execS P cf n0 w (.sub (.idx (.var 4) (.var x)) (.var y) (.bin .add (.idx (.idx (.var 4) (.var x)) (.var y)) (.cst (.int 1)))) ρ (A ++ (Rows R ++ [.lst (Lc n0 m)])) = .nx ρ (A ++ (Rows (R.set i (r.set j (v + 1))) ++ [.lst (Lc n0 m)])) := by
  have hi := (List.getElem?_eq_some_iff.mp hr).1
  have hj := (List.getElem?_eq_some_iff.mp hv).1
  have e : oP n0 (A ++ (Rows R ++ [.lst (Lc n0 m)])) (n0 + i) (.int (v + 1)) (r.map PV.int) (j : Int) = some (A ++ (Rows (R.set i (r.set j (v + 1))) ++ [.lst (Lc n0 m)])) := by
    rw [oP_nat (by simpa using hj), mh_int, if_pos rfl, ← List.map_set, s_row hA hi]
  have g1 := g_tab (T := []) (L := .lst (Lc n0 m)) hA hm
  have g2 := g_row (T := [.lst (Lc n0 m)]) hA hr
  have l1 := lc_at (n0 := n0) (m := m) (i := i) (by omega)
  have r1 := row_at hv
  simp only [ex_sub, ev_bin, ev_idx, ev_var, ev_cst, h4, hx, hy, th_ok, fz_v, idx_int, sq_loc, g1, Option.bind_some, l1, Option.map_some, oRv_some, g2, r1, bin_int, bi_add, on_ok, put_loc, e, oN_some]
/-- the frozen rows -/
abbrev fz (R : List (List Int)) : PV := .tup (R.map fun r => .tup (r.map PV.int))
theorem pures_int (r : List Int) : PV.pures (r.map PV.int) = true := pures_all.mpr fun x hx => by
  obtain ⟨i, _, rfl⟩ := List.mem_map.mp hx
  rfl
theorem fz_pure (R : List (List Int)) : (fz R).pure = true := by
  unfold fz
  simp only [PV.pure]
  refine pures_all.mpr fun x hx => ?_
  obtain ⟨r, _, rfl⟩ := List.mem_map.mp hx
  simp only [PV.pure]
  exact pures_int r
theorem frozen_ok {w n m : Nat} {A : Store} {R : List (List Int)} {n0 : Nat} (hA : A.length = n0) (hm : R.length = m) : callF P w (n + 1) 8 [.loc (n0 + m)] (A ++ (Rows R ++ [.lst (Lc n0 m)])) = .ok (.v (fz R)) (A ++ (Rows R ++ [.lst (Lc n0 m)])) := by
  have g1 := g_tab (T := []) (L := .lst (Lc n0 m)) hA hm
  obtain ⟨S, hS⟩ : ∃ S, S = A ++ (Rows R ++ [.lst (Lc n0 m)]) := ⟨_, rfl⟩
  have key : cGo P (callF P w n) S.length [1] (.name 1) none (.bi .tuple [.var 1]) [some (.loc (n0 + m)), none] (.loc (n0 + m)) (Lc n0 m) S = .ok (.f (.lst ((Lc n0 m).filterMap fun x => (seqOf S x).map PV.tup))) S := by
    refine cGo_map _ (same_loc (by rw [hS]; exact g1)) fun x hx => ?_
    obtain ⟨i, hi, rfl⟩ := List.mem_map.mp hx
    have hi : i < R.length := by simpa [hm] using hi
    have g2 := g_row (T := [.lst (Lc n0 m)]) hA (List.getElem?_eq_getElem hi)
    rw [← hS] at g2
    refine ⟨_, true, rfl, rfl, fun _ => ⟨.v (.tup (R[i].map PV.int)), ?_, ?_⟩, fun h => by cases h⟩
    · simp [wipeE, g2]
    · simp [g2]
  have e2 : ((Lc n0 m).filterMap fun x => (seqOf S x).map PV.tup) = R.map fun r => .tup (r.map PV.int) := by
    have e3 : ∀ l : List Nat, (∀ i ∈ l, i < R.length) → (l.map fun i => PV.loc (n0 + i)).filterMap (fun x => (seqOf S x).map PV.tup) = l.map fun i => .tup ((R[i]?.getD []).map PV.int) := by
      intro l
      induction l with
      | nil => exact fun _ => rfl
      | cons i l ih =>
        intro hl
        have hi := hl i List.mem_cons_self  -- so
        have g2 := g_row (T := [.lst (Lc n0 m)]) hA (List.getElem?_eq_getElem hi)
        rw [← hS] at g2
        rw [List.map_cons, List.map_cons, ← ih fun j hj => hl j (List.mem_cons_of_mem _ hj)]
        simp [g2, hi]
    rw [e3 (List.range m) fun i hi => by rw [hm]; simpa using hi]
    apply List.ext_getElem?
    intro i
    by_cases hi : i < R.length
    · have hi2 : i < m := by omega
      simp [hi, hi2]
    · have hi2 : ¬ i < m := by omega
      simp [hi, hi2]
  rw [e2] at key
  rw [call_fn P8 rfl, ← hS]
  rw [← hS] at g1
  have hp : (fz R).pure = true := fz_pure R
  simp [f_law_frozen, g1, key]
  exact (close_pure hp).trans (by rw [List.take_length])
def WI (S : Store) (k : Nat) (c : Int) (m : Nat) (pl mo : Int) (B : Int) (d : Int) (i : Nat) (ρ : Rho) (S' : Store) : Prop := ∃ (R : List (List Int)) (X : Cell) (x5 x6 x7 x8 : Option PV), ρ = [some (.loc k), some (.int pl), some (.int mo), some (.int m), some (.loc (S.length + m)), x5, x6, x7, x8] ∧
  S' = S.set k X ++ (Rows R ++ [.lst (Lc S.length m)]) ∧ R.length = m ∧ (∀ r ∈ R, r.length = m ∧ ∀ v ∈ r, 0 ≤ v ∧ v ≤ B + i) ∧ Bx (S.set k X) k (c + d * i)
theorem inc_rows {R : List (List Int)} {m i j : Nat} {r : List Int} {v B : Int} (h : ∀ r ∈ R, r.length = m ∧ ∀ v ∈ r, 0 ≤ v ∧ v ≤ B) (hr : R[i]? = some r) (hv : r[j]? = some v) : ∀ r' ∈ R.set i (r.set j (v + 1)), r'.length = m ∧ ∀ v ∈ r', 0 ≤ v ∧ v ≤ B + 1 := by
  intro r' hr'
  rcases List.mem_or_eq_of_mem_set hr' with h1 | rfl
  · obtain ⟨a, b⟩ := h r' h1
    exact ⟨a, fun v hv => by have := b v hv; omega⟩
  · obtain ⟨a, b⟩ := h r (List.mem_of_getElem? hr)
    refine ⟨by rw [List.length_set]; exact a, fun u hu => ?_⟩
    rcases List.mem_or_eq_of_mem_set hu with h2 | rfl
    · have := b u h2; omega
    · have := b v (List.mem_of_getElem? hv); omega
end Lk42

open PySem PySem.Spec PyProof.Rows L2 Ip
namespace Lk42
theorem mul_rep (S : Store) (m : Nat) (h : m ≤ 1000) : evBin S .mul (.lst [.int 0]) (.int m) = some (.f (row (List.replicate m 0))) := by
  have e : ∀ m : Nat, (List.replicate m [PV.int 0]).flatten = (List.replicate m (0 : Int)).map PV.int := fun m => by
    induction m with
    | zero => rfl
    | succ m ih => rw [List.replicate_succ, List.flatten_cons, ih, List.replicate_succ]; rfl
  have hb : [PV.int 0].length * (m : Int).toNat ≤ big := by
    rw [Int.toNat_natCast]
    show 1 * m ≤ 16777216
    omega
  rw [bin_rep ⟨by omega, by omega, hb⟩, Int.toNat_natCast, e]
theorem web_start {w n k m : Nat} {S A : Store} {ρ : Rho} (hA : A.length = S.length) (hm : m ≤ 1000) (h3 : ρ[3]? = some (some (.int m))) : ∃ ys, cGo P (callF P w n) S.length [5] (.name 5) none (.alloc (.bin .mul (.lst [.cst (.int 0)]) (.var 3))) ρ (.lst (rngs 0 m)) (rngs 0 m) A = .ok (.f (.lst (Lc S.length m))) ys ∧ ys = A ++ Rows (List.replicate m (List.replicate m 0)) := by
  obtain ⟨ys, S', e, i, j, e1, e2, e3, e4⟩ := cGo_list (P := P) (cf := callF P w n) (n0 := S.length) (own := [5]) (tg := .name 5) (cond := none) (elt := .alloc (.bin .mul (.lst [.cst (.int 0)]) (.var 3))) (p := .lst (rngs 0 m)) (xs := rngs 0 m) (ρ := ρ) (S := A)
    (fun r ys S' => ∃ i j : Nat, i + j = m ∧ r = rngs i j ∧ ys = Lc S.length i ∧ S' = A ++ Rows (List.replicate i (List.replicate m 0))) held_lst ⟨0, m, by omega, rfl, rfl, by simp⟩ fun x r ys S' h => by
      obtain ⟨i, j, e1, e2, rfl, rfl⟩ := h
      cases j with
      | zero => cases e2
      | succ j =>
        rw [rngs_cons] at e2
        cases e2
        have h3' : ((wipeE ρ [5]).set 5 (some (.int i)))[3]? = some (some (.int m)) := by
          show ((ρ.set 5 none).set 5 _)[3]? = _
          rw [List.getElem?_set_ne (by decide), List.getElem?_set_ne (by decide)]
          exact h3
        have hl : (A ++ Rows (List.replicate i (List.replicate m 0))).length = S.length + i := by simp [hA]
        refine ⟨_, true, _, rfl, rfl, fun _ => ⟨.v (.loc (S.length + i)), A ++ Rows (List.replicate (i + 1) (List.replicate m 0)), ?_, i + 1, j, by omega, by rw [Int.natCast_add]; rfl, ?_, rfl⟩, fun h => by cases h⟩
        · have e5 : ∀ S', evalE P (callF P w n) S.length (.bin .mul (.lst [.cst (.int 0)]) (.var 3)) ((wipeE ρ [5]).set 5 (some (.int i))) S' = .ok (.f (row (List.replicate m 0))) S' := fun S' => by
            rw [ev_bin, ev_lst, ev_cons, ev_cst, th_ok, ev_nil, th_ok, th_ok, th_ok, ev_var, h3']
            dsimp only
            rw [th_ok, fz_v, fz_f, fz_v, mul_rep _ _ hm, oRv_some]
          rw [ev_alloc, e5, th_ok]
          dsimp only
          rw [hl, List.replicate_succ']
          simp only [Rows, List.map_append, List.append_assoc]
          rfl
        · show (List.range i).map _ ++ [_] = (List.range (i + 1)).map _
          rw [List.range_succ, List.map_append]
          rfl
  cases j with
  | zero =>
    obtain rfl : i = m := by omega
    exact ⟨S', by rw [e, e3], e4⟩
  | succ j =>
    rw [rngs_cons] at e2
    cases e2
theorem set_row_same {S : Store} {k : Nat} {X Y : Cell} {c : Int} {T : Store} (h : Bx (S.set k X) k c) : (S.set k X ++ T).set k Y = S.set k Y ++ T := by
  obtain ⟨x, hx⟩ := h.lt
  rw [set_low hx, List.set_set]
theorem web_ok {w n k : Nat} {S : Store} {c pl mo : Int} (h : Bx S k c) (hc : c + 1000 < 2 ^ 60) (hp : 0 < pl ∧ pl ≤ 50) (hq : 0 ≤ mo ∧ mo ≤ 50) :
    ∃ (R : List (List Int)) (X : Cell), callF P w (n + 2) 3 [.loc k, .int pl, .int mo] S = .ok (.v (fz R)) (S.set k X) ∧ R.length ≤ 50 ∧ (∀ r ∈ R, r.length ≤ 50 ∧ ∀ v ∈ r, 0 ≤ v ∧ v ≤ 100) ∧ Bx (S.set k X) k (c + 1000) := by
  have hb : (big : Nat) = 16777216 := rfl
  obtain ⟨r0, X0, t1, t2, t3, t4⟩ := take_bx (w := w) (n := n) h (by omega) hp.1 (by omega)
  obtain ⟨x0, hk⟩ := h.lt
  obtain ⟨m, hm⟩ : ∃ m : Nat, 1 + r0 = m := ⟨(1 + r0).toNat, by omega⟩
  have hA : ∀ X, (S.set k X).length = S.length := fun X => List.length_set
  obtain ⟨S1, e1, e2⟩ := web_start (w := w) (n := n + 1) (k := k) (m := m) (S := S) (A := S.set k X0) (ρ := [some (.loc k), some (.int pl), some (.int mo), some (.int m), none, none, none, none, none]) (hA X0) (by omega) rfl
  have step1 : ∀ i ρ S', i < m → WI S k (c + 1) m pl mo 0 1 i ρ S' → ∃ ρ1 ρ2 S2, Tgt.set (.name 5) (.int i) ρ = some ρ1 ∧ execSs P (callF P w (n + 1)) S.length w [.asg 6 (.call 7 [(.var 0), (.var 3)]), .sub (.idx (.var 4) (.var 5)) (.var 6) (.bin .add (.idx (.idx (.var 4) (.var 5)) (.var 6)) (.cst (.int 1)))] ρ1 S' = .nx ρ2 S2 ∧ WI S k (c + 1) m pl mo 0 1 (i + 1) ρ2 S2 := by
    intro i ρ S' hi hI
    obtain ⟨R, X, x5, x6, x7, x8, rfl, rfl, q1, q2, q3⟩ := hI
    obtain ⟨r, X2, u1, u2, u3, u4⟩ := take_bx (w := w) (n := n) (many := m) (q3.low (T := Rows R ++ [.lst (Lc S.length m)])) (by omega) (by omega) (by omega)
    rw [set_row_same q3] at u1 u4
    obtain ⟨j, rfl⟩ : ∃ j : Nat, r = j := ⟨r.toNat, by omega⟩
    have hi' : i < R.length := by omega
    have hrow : R[i]? = some R[i] := List.getElem?_eq_getElem hi'
    have hj : j < R[i].length := by rw [(q2 R[i] (List.getElem_mem hi')).1]; omega
    have hv : R[i][j]? = some R[i][j] := List.getElem?_eq_getElem hj
    refine ⟨_, [some (.loc k), some (.int pl), some (.int mo), some (.int m), some (.loc (S.length + m)), some (.int i), some (.int j), x7, x8], _, rfl, ?_, R.set i (R[i].set j (R[i][j] + 1)), X2, some (.int i), some (.int j), x7, x8, rfl, rfl, by rw [List.length_set]; exact q1, ?_, ?_⟩
    · have z := inc_ok (cf := callF P w (n + 1)) (w := w) (x := 5) (y := 6) (ρ := [some (.loc k), some (.int pl), some (.int mo), some (.int m), some (.loc (S.length + m)), some (.int i), some (.int j), x7, x8]) (hA X2) q1 rfl rfl rfl hrow hv
      have c1 : evalE P (callF P w (n + 1)) S.length (.call 7 [.var 0, .var 3]) [some (.loc k), some (.int pl), some (.int mo), some (.int m), some (.loc (S.length + m)), some (.int i), x6, x7, x8] (S.set k X ++ (Rows R ++ [.lst (Lc S.length m)])) = .ok (.v (.int j)) (S.set k X2 ++ (Rows R ++ [.lst (Lc S.length m)])) := by
        simp [u1]
      rw [ex_cons, ex_asg]
      simp only [List.set_cons_succ, List.set_cons_zero]
      rw [c1, on_ok, sq_nx, bindR_v, ex_cons]
      simp only [List.set_cons_succ, List.set_cons_zero]
      rw [z, sq_nx, ex_nil]
    · have := inc_rows q2 hrow hv
      intro r hr
      obtain ⟨a, b⟩ := this r hr
      exact ⟨a, fun v hv => by have := b v hv; omega⟩
    · have := u4.up (List.getElem?_set_self (List.getElem?_eq_some_iff.mp hk).1)
      rw [show c + 1 + 1 * ((i + 1 : Nat) : Int) = c + 1 + 1 * (i : Int) + 1 by omega]
      exact this
  have step2 : ∀ (B : Int) (i : Nat) ρ S', c + 2 + m + 2 * i + 10 < 2 ^ 60 → WI S k (c + 2 + m) m pl mo B 2 i ρ S' → ∃ ρ1 ρ2 S2, Tgt.set (.name 7) (.int i) ρ = some ρ1 ∧ execSs P (callF P w (n + 1)) S.length w [.par 8 6 (.call 7 [(.var 0), (.var 3)]) (.call 7 [(.var 0), (.var 3)]), .sub (.idx (.var 4) (.var 8)) (.var 6) (.bin .add (.idx (.idx (.var 4) (.var 8)) (.var 6)) (.cst (.int 1)))] ρ1 S' = .nx ρ2 S2 ∧ WI S k (c + 2 + m) m pl mo B 2 (i + 1) ρ2 S2 := by
    intro B i ρ S' hi hI
    obtain ⟨R, X, x5, x6, x7, x8, rfl, rfl, q1, q2, q3⟩ := hI
    obtain ⟨r, X2, u1, u2, u3, u4⟩ := take_bx (w := w) (n := n) (many := m) (q3.low (T := Rows R ++ [.lst (Lc S.length m)])) (by omega) (by omega) (by omega)
    rw [set_row_same q3] at u1 u4
    have q4 := u4.up (List.getElem?_set_self (List.getElem?_eq_some_iff.mp hk).1)
    obtain ⟨r2, X3, v1, v2, v3, v4⟩ := take_bx (w := w) (n := n) (many := m) (q4.low (T := Rows R ++ [.lst (Lc S.length m)])) (by omega) (by omega) (by omega)
    rw [set_row_same q4] at v1 v4
    have q5 := v4.up (List.getElem?_set_self (List.getElem?_eq_some_iff.mp hk).1)
    obtain ⟨y, rfl⟩ : ∃ y : Nat, r = y := ⟨r.toNat, by omega⟩
    obtain ⟨j, rfl⟩ : ∃ j : Nat, r2 = j := ⟨r2.toNat, by omega⟩
    have hi' : y < R.length := by omega
    have hrow : R[y]? = some R[y] := List.getElem?_eq_getElem hi'
    have hj : j < R[y].length := by rw [(q2 R[y] (List.getElem_mem hi')).1]; omega
    have hv : R[y][j]? = some R[y][j] := List.getElem?_eq_getElem hj
    refine ⟨_, [some (.loc k), some (.int pl), some (.int mo), some (.int m), some (.loc (S.length + m)), x5, some (.int j), some (.int i), some (.int y)], _, rfl, ?_, R.set y (R[y].set j (R[y][j] + 1)), X3, x5, some (.int j), some (.int i), some (.int y), rfl, rfl, by rw [List.length_set]; exact q1, ?_, ?_⟩
    · have z := inc_ok (cf := callF P w (n + 1)) (w := w) (x := 8) (y := 6) (ρ := [some (.loc k), some (.int pl), some (.int mo), some (.int m), some (.loc (S.length + m)), x5, some (.int j), some (.int i), some (.int y)]) (hA X3) q1 rfl rfl rfl hrow hv
      have c1 : evalE P (callF P w (n + 1)) S.length (.call 7 [.var 0, .var 3]) [some (.loc k), some (.int pl), some (.int mo), some (.int m), some (.loc (S.length + m)), x5, x6, some (.int i), x8] (S.set k X ++ (Rows R ++ [.lst (Lc S.length m)])) = .ok (.v (.int y)) (S.set k X2 ++ (Rows R ++ [.lst (Lc S.length m)])) := by
        simp [u1]
      have c2 : evalE P (callF P w (n + 1)) S.length (.call 7 [.var 0, .var 3]) [some (.loc k), some (.int pl), some (.int mo), some (.int m), some (.loc (S.length + m)), x5, x6, some (.int i), x8] (S.set k X2 ++ (Rows R ++ [.lst (Lc S.length m)])) = .ok (.v (.int j)) (S.set k X3 ++ (Rows R ++ [.lst (Lc S.length m)])) := by
        simp [v1]
      rw [ex_cons, ex_par]
      simp only [List.set_cons_succ, List.set_cons_zero]
      rw [c1, on_ok, bindR_v]
      dsimp only
      rw [c2, on_ok, sq_nx, bindR_v, ex_cons]
      simp only [List.set_cons_succ, List.set_cons_zero]
      rw [z, sq_nx, ex_nil]
    · have := inc_rows q2 hrow hv
      intro r hr
      obtain ⟨a, b⟩ := this r hr
      exact ⟨a, fun v hv => by have := b v hv; omega⟩
    · rw [show c + 2 + m + 2 * ((i + 1 : Nat) : Int) = c + 2 + m + 2 * (i : Int) + 1 + 1 by omega]
      exact q5
  obtain ⟨ρ3, S3, l1, R3, X3, y5, y6, y7, y8, rfl, rfl, q1, q2, q3⟩ := fGo_rng (WI S k (c + 1) m pl mo 0 1) (ρ := [some (.loc k), some (.int pl), some (.int mo), some (.int m), some (.loc (S.length + m)), none, none, none, none]) (S := S.set k X0 ++ (Rows (List.replicate m (List.replicate m 0)) ++ [.lst (Lc S.length m)])) m
    ⟨List.replicate m (List.replicate m 0), X0, none, none, none, none, rfl, rfl, by simp, fun r hr => by
      rw [List.eq_of_mem_replicate hr]
      exact ⟨by simp, fun v hv => by rw [List.eq_of_mem_replicate hv]; omega⟩, by simpa using t4⟩ step1
  obtain ⟨g, X4, g1, g2, g3, g4⟩ := take_bx (w := w) (n := n) (many := mo + 1) (q3.low (T := Rows R3 ++ [.lst (Lc S.length m)])) (by omega) (by omega) (by omega)
  rw [set_row_same q3] at g1 g4
  have g5 := g4.up (List.getElem?_set_self (List.getElem?_eq_some_iff.mp hk).1)
  obtain ⟨lp, rfl⟩ : ∃ lp : Nat, g = lp := ⟨g.toNat, by omega⟩
  have start2 : WI S k (c + 2 + m) m pl mo m 2 0 [some (.loc k), some (.int pl), some (.int mo), some (.int m), some (.loc (S.length + m)), y5, y6, y7, y8] (S.set k X4 ++ (Rows R3 ++ [.lst (Lc S.length m)])) :=
    ⟨R3, X4, y5, y6, y7, y8, rfl, rfl, q1, fun r hr => ⟨(q2 r hr).1, fun v hv => by have := (q2 r hr).2 v hv; omega⟩, by
      obtain ⟨a, b, d, h1, h2, h3, h4, h5, h6⟩ := g5
      exact ⟨a, b, d, h1, h2, h3, h4, h5, by omega⟩⟩
  obtain ⟨ρ5, S5, l2, _, R5, X5, z5, z6, z7, z8, rfl, rfl, p1, p2, p3⟩ := fGo_rng (fun i ρ S' => i ≤ lp ∧ WI S k (c + 2 + m) m pl mo m 2 i ρ S') lp ⟨Nat.zero_le _, start2⟩ (fun i ρ S' hi hI => by
    obtain ⟨ρ1, ρ2, S2, a1, a2, a3⟩ := step2 m i ρ S' (by omega) hI.2
    exact ⟨ρ1, ρ2, S2, a1, a2, by omega, a3⟩)
  have hfr := frozen_ok (w := w) (n := n) (hA X5) p1
  have b1 : (m : Int) ≤ 16777216 := by omega
  have b2 : -4611686018427387904 ≤ (m : Int) := by omega
  have b3 : (lp : Int) ≤ 16777216 := by omega
  have b4 : -4611686018427387904 ≤ (lp : Int) := by omega
  refine ⟨R5, X5, ?_, by omega, fun r hr => ⟨by have := (p2 r hr).1; omega, fun v hv => by have := (p2 r hr).2 v hv; omega⟩, ?_⟩
  · have hl : S1.length = S.length + m := by rw [e2]; simp
    have q1' : -(2 ^ 62) ≤ (m : Int) ∧ (m : Int) ≤ big := by rw [hb]; omega
    have q2' : -(2 ^ 62) ≤ (lp : Int) ∧ (lp : Int) ≤ big := by rw [hb]; omega
    have c1 : evalE P (callF P w (n + 1)) S.length (.bin .add (.cst (.int 1)) (.call 7 [.var 0, .var 1])) [some (.loc k), some (.int pl), some (.int mo), none, none, none, none, none, none] S = .ok (.v (.int m)) (S.set k X0) := by simp [t1, hm]
    have rg : ∀ (e : IE) (x : Nat) (ρ : Rho) (A B : Store), -(2 ^ 62) ≤ (x : Int) ∧ (x : Int) ≤ big → evalE P (callF P w (n + 1)) S.length e ρ A = .ok (.v (.int x)) B → evalE P (callF P w (n + 1)) S.length (.rng [e]) ρ A = .ok (.f (.lst (rngs 0 x))) B := fun e x ρ A B h1 h2 => by
      rw [ev_rng1, h2, th_ok, fz_v]
      dsimp only
      rw [if_pos h1, Int.toNat_natCast]
    have c2 : evalE P (callF P w (n + 1)) S.length (.comp [5] (.name 5) (.rng [.var 3]) none (.alloc (.bin .mul (.lst [.cst (.int 0)]) (.var 3)))) [some (.loc k), some (.int pl), some (.int mo), some (.int m), none, none, none, none, none] (S.set k X0) = .ok (.f (.lst (Lc S.length m))) S1 := by
      rw [ev_comp, rg (.var 3) m _ _ _ q1' rfl, th_ok, fz_f, sq_lst, kCp_some, e1]
    have c4 : evalE P (callF P w (n + 1)) S.length (.call 7 [.var 0, .bin .add (.var 2) (.cst (.int 1))]) [some (.loc k), some (.int pl), some (.int mo), some (.int m), some (.loc (S.length + m)), y5, y6, y7, y8] (S.set k X3 ++ (Rows R3 ++ [.lst (Lc S.length m)])) = .ok (.v (.int lp)) (S.set k X4 ++ (Rows R3 ++ [.lst (Lc S.length m)])) := by simp [g1]
    have c5 : evalE P (callF P w (n + 1)) S.length (.call 8 [.var 4]) [some (.loc k), some (.int pl), some (.int mo), some (.int m), some (.loc (S.length + m)), z5, z6, z7, z8] (S.set k X5 ++ (Rows R5 ++ [.lst (Lc S.length m)])) = .ok (.v (fz R5)) (S.set k X5 ++ (Rows R5 ++ [.lst (Lc S.length m)])) := by
      rw [ev_call, ev_cons, ev_var]
      dsimp only [List.getElem?_cons_succ, List.getElem?_cons_zero]
      rw [th_ok, ev_nil, th_ok, fz_v, th_ok, hfr]
    rw [call_fn P3 rfl]
    simp only [f_law_web, List.map_cons, List.map_nil, List.cons_append, List.nil_append, List.replicate]
    rw [ex_cons, ex_asg, c1, on_ok, sq_nx, bindR_v, ex_cons, ex_asg]
    simp only [List.set_cons_succ, List.set_cons_zero]
    rw [c2, on_ok, sq_nx, bindR_f, hl, ex_cons, ex_for]
    simp only [List.set_cons_succ, List.set_cons_zero]
    rw [rg (.var 3) m _ _ _ q1' rfl, on_ok, fz_f, sq_lst, kFor_some, e2, List.append_assoc, l1, sq_nx, ex_cons, ex_for, rg _ lp _ _ _ q2' c4, on_ok, fz_f, sq_lst, kFor_some, l2, sq_nx, ex_cons, ex_ret, c5, on_ok, sq_rt, closeS_rt, close_pure (fz_pure R5), take_low (hA X5)]
  · obtain ⟨a, b, d, h1, h2, h3, h4, h5, h6⟩ := p3
    exact ⟨a, b, d, h1, h2, h3, h4, h5, by omega⟩
end Lk42

open PySem PySem.Spec PyProof.Rows L2 Ip
namespace Lk42
theorem P5 : P.fns 5 = some f_law_made := rfl
theorem P6 : P.fns 6 = some f_law_words := rfl
def madeT : List (Str × Nat) := [(Str.ofString "BadChain", 1), (Str.ofString "BadCode", 2), (Str.ofString "BadEndless", 3), (Str.ofString "BadLine", 4), (Str.ofString "BadLot", 5), (Str.ofString "BadLots", 6), (Str.ofString "BadName", 7), (Str.ofString "BadNumber", 8), (Str.ofString "BadOrder", 9), (Str.ofString "BadPlace", 11), (Str.ofString "BadShelf", 12), (Str.ofString "BadStep", 13), (Str.ofString "BadPaper", 10), (Str.ofString "BadTable", 14), (Str.ofString "BadText", 15), (Str.ofString "BadTie", 16), (Str.ofString "BadWay", 17), (Str.ofString "BadWeb", 18), (Str.ofString "BadWords", 19), (Str.ofString "Full", 20), (Str.ofString "Known", 21), (Str.ofString "NoWay", 22), (Str.ofString "NotAlike", 23), (Str.ofString "NotFull", 24), (Str.ofString "NotTwins", 25), (Str.ofString "NotUndone", 26), (Str.ofString "Nothing", 27), (Str.ofString "TooMany", 28), (Str.ofString "Unknown", 29)]
def wordT : List (Str × Nat) := [(Str.ofString "BadChain", 1), (Str.ofString "BadCode", 2), (Str.ofString "BadEndless", 3), (Str.ofString "BadLine", 4), (Str.ofString "BadLot", 5), (Str.ofString "BadLots", 6), (Str.ofString "BadName", 7), (Str.ofString "BadNumber", 8), (Str.ofString "BadOrder", 9), (Str.ofString "BadPlace", 11), (Str.ofString "BadShelf", 12), (Str.ofString "BadStep", 13), (Str.ofString "BadTable", 14), (Str.ofString "BadText", 15), (Str.ofString "BadTie", 16), (Str.ofString "BadWay", 17), (Str.ofString "BadWeb", 18), (Str.ofString "BadWords", 19), (Str.ofString "Full", 20), (Str.ofString "Known", 21), (Str.ofString "NoWay", 22), (Str.ofString "NotAlike", 23), (Str.ofString "NotFull", 24), (Str.ofString "NotTwins", 25), (Str.ofString "NotUndone", 26), (Str.ofString "Nothing", 27), (Str.ofString "TooMany", 28), (Str.ofString "Unknown", 29), (Str.ofString "BadPaper", 10)]
abbrev madeL (v : PV) : List PV := madeT.map fun p => .tup [.str p.1, .exc p.2 v]
theorem bin_app {S : Store} {k : Nat} {xs ys : List PV} (h : S[k]? = some (.lst xs)) (hl : xs.length + ys.length ≤ big) : evBin S .add (.loc k) (.lst ys) = some (.f (.lst (xs ++ ys))) := by
  have e0 : evBin S .add (.loc k) (.lst ys) = if Bop.add = .add ∧ isLs (PV.loc k) = true ∧ isLs (PV.lst ys) = true then (match seqOf S (.loc k), seqOf S (.lst ys) with
      | some xs, some ys => if xs.length + ys.length ≤ big then some (.f (.lst (xs ++ ys))) else none
      | _, _ => none) else none := rfl
  rw [e0, if_pos ⟨rfl, rfl, rfl⟩, sq_loc, h, sq_lst]
  exact if_pos hl
theorem ext_ok {cf : Nat → List PV → Store → Out RV} {w : Nat} {S : Store} {xs ys : List PV} {es : List IE} {ρ : Rho} (h1 : ρ[1]? = some (some (.loc S.length))) (he : ∀ T, evalEs P cf S.length es ρ T = .ok ys T) (hl : xs.length + ys.length ≤ 1000) :
    execS P cf S.length w (.ex (.meth .extend (.var 1) [.lst es])) ρ (S ++ [.lst xs]) = .nx ρ (S ++ [.lst (xs ++ ys)]) := by
  have hb : xs.length + ys.length ≤ big ∧ ys.all (mayHold S.length S.length) = true := ⟨Nat.le_trans hl (by decide), List.all_eq_true.mpr fun p _ => mh_new (Nat.le_refl _)⟩
  rw [ex_ex, ev_meth, ev_var, h1]
  dsimp only
  rw [th_ok, fz_v, isLoc_loc, kM_t, ev_cons, ev_lst, he, th_ok, th_ok, ev_nil, th_ok, th_ok, fz_f, me_ext, get_0 rfl]
  dsimp only
  rw [if_pos hb, oM_some, on_ok, set_0 rfl]
theorem app_ok {cf : Nat → List PV → Store → Out RV} {w : Nat} {S : Store} {xs : List PV} {y : PV} {e : IE} {ρ : Rho} (h1 : ρ[1]? = some (some (.loc S.length))) (he : ∀ T, evalE P cf S.length e ρ T = .ok (.v y) T) (hl : xs.length ≤ 1000) :
    execS P cf S.length w (.ex (.meth .append (.var 1) [e])) ρ (S ++ [.lst xs]) = .nx ρ (S ++ [.lst (xs ++ [y])]) := by
  have hb : xs.length < big ∧ mayHold S.length S.length y = true := ⟨Nat.lt_of_le_of_lt hl (by decide), mh_new (Nat.le_refl _)⟩
  rw [ex_ex, ev_meth, ev_var, h1]
  dsimp only
  rw [th_ok, fz_v, isLoc_loc, kM_t, ev_cons, he, th_ok, ev_nil, th_ok, th_ok, fz_v, me_app, get_0 rfl]
  dsimp only
  rw [if_pos hb, oM_some, on_ok, set_0 rfl]
theorem made_ok {w n : Nat} {S : Store} {v : PV} (hv : v.pure = true) : callF P w (n + 1) 5 [v] S = .ok (.f (.lst (madeL v))) S := by
  have hp : PV.pures (madeL v) = true := pures_all.mpr fun x hx => by
    obtain ⟨p, _, rfl⟩ := List.mem_map.mp hx
    simp [PV.pure, PV.pures, hv]
  rw [call_fn P5 rfl]
  simp only [f_law_made, List.map_cons, List.map_nil, List.cons_append, List.nil_append, List.replicate]
  rw [ex_cons, ex_asg]
  simp only [ev_lst, ev_cons, ev_nil, ev_tup, ev_cst, ev_mk, ev_var, List.getElem?_cons_zero, th_ok, fz_v, on_ok, sq_nx, bindR_f, List.set_cons_succ, List.set_cons_zero]
  iterate 3 rw [ex_cons, ext_ok rfl (fun T => by simp only [ev_cons, ev_nil, ev_tup, ev_cst, ev_mk, ev_var, List.getElem?_cons_zero, th_ok, fz_v]; rfl) (by simp), sq_nx]
  rw [ex_cons, app_ok rfl (fun T => by simp only [ev_cons, ev_nil, ev_tup, ev_cst, ev_mk, ev_var, List.getElem?_cons_zero, th_ok, fz_v]; rfl) (by simp), sq_nx]
  iterate 3 rw [ex_cons, ext_ok rfl (fun T => by simp only [ev_cons, ev_nil, ev_tup, ev_cst, ev_mk, ev_var, List.getElem?_cons_zero, th_ok, fz_v]; rfl) (by simp), sq_nx]
  rw [ex_cons, app_ok rfl (fun T => by simp only [ev_cons, ev_nil, ev_tup, ev_cst, ev_mk, ev_var, List.getElem?_cons_zero, th_ok, fz_v]; rfl) (by simp), sq_nx]
  iterate 1 rw [ex_cons, ext_ok rfl (fun T => by simp only [ev_cons, ev_nil, ev_tup, ev_cst, ev_mk, ev_var, List.getElem?_cons_zero, th_ok, fz_v]; rfl) (by simp), sq_nx]
  rw [ex_cons, ex_ret, ev_bin]
  simp only [ev_lst, ev_cons, ev_nil, ev_tup, ev_cst, ev_mk, ev_var, List.getElem?_cons_zero, List.getElem?_cons_succ, th_ok, fz_v, fz_f]
  rw [bin_app (get_0 rfl) (by simp; decide), oRv_some, on_ok, sq_rt, closeS_rt]
  exact (close_purel hp).trans (by rw [take_low rfl])
abbrev wordL (c : Nat) : List PV := wordT.map fun p => .tup [.str p.1, .bl (P.sub c p.2)]
def keepW : PV → Option PV
  | .tup [s, .bl true] => some s
  | _ => none
theorem isi_cls {c d : Nat} {v : PV} {S : Store} (hc : P.sub c c = true) (hd : P.sub d d = true) : evIsi P.sub S (.cls d) (.exc c v) = some (P.sub c d) := by simp [evIsi, hc, hd]
theorem words_ok {w n c : Nat} {S : Store} {v : PV} (hc : P.sub c c = true) : callF P w (n + 1) 6 [.exc c v] S = .ok (.f (.lst ((wordL c).filterMap keepW))) S := by
  have s1 : ∀ T, evIsi P.sub T (.cls 1) (.exc c v) = some (P.sub c 1) := fun T => isi_cls hc (by decide)
  have s2 : ∀ T, evIsi P.sub T (.cls 2) (.exc c v) = some (P.sub c 2) := fun T => isi_cls hc (by decide)
  have s3 : ∀ T, evIsi P.sub T (.cls 3) (.exc c v) = some (P.sub c 3) := fun T => isi_cls hc (by decide)
  have s4 : ∀ T, evIsi P.sub T (.cls 4) (.exc c v) = some (P.sub c 4) := fun T => isi_cls hc (by decide)
  have s5 : ∀ T, evIsi P.sub T (.cls 5) (.exc c v) = some (P.sub c 5) := fun T => isi_cls hc (by decide)
  have s6 : ∀ T, evIsi P.sub T (.cls 6) (.exc c v) = some (P.sub c 6) := fun T => isi_cls hc (by decide)
  have s7 : ∀ T, evIsi P.sub T (.cls 7) (.exc c v) = some (P.sub c 7) := fun T => isi_cls hc (by decide)
  have s8 : ∀ T, evIsi P.sub T (.cls 8) (.exc c v) = some (P.sub c 8) := fun T => isi_cls hc (by decide)
  have s9 : ∀ T, evIsi P.sub T (.cls 9) (.exc c v) = some (P.sub c 9) := fun T => isi_cls hc (by decide)
  have s10 : ∀ T, evIsi P.sub T (.cls 10) (.exc c v) = some (P.sub c 10) := fun T => isi_cls hc (by decide)
  have s11 : ∀ T, evIsi P.sub T (.cls 11) (.exc c v) = some (P.sub c 11) := fun T => isi_cls hc (by decide)
  have s12 : ∀ T, evIsi P.sub T (.cls 12) (.exc c v) = some (P.sub c 12) := fun T => isi_cls hc (by decide)
  have s13 : ∀ T, evIsi P.sub T (.cls 13) (.exc c v) = some (P.sub c 13) := fun T => isi_cls hc (by decide)
  have s14 : ∀ T, evIsi P.sub T (.cls 14) (.exc c v) = some (P.sub c 14) := fun T => isi_cls hc (by decide)
  have s15 : ∀ T, evIsi P.sub T (.cls 15) (.exc c v) = some (P.sub c 15) := fun T => isi_cls hc (by decide)
  have s16 : ∀ T, evIsi P.sub T (.cls 16) (.exc c v) = some (P.sub c 16) := fun T => isi_cls hc (by decide)
  have s17 : ∀ T, evIsi P.sub T (.cls 17) (.exc c v) = some (P.sub c 17) := fun T => isi_cls hc (by decide)
  have s18 : ∀ T, evIsi P.sub T (.cls 18) (.exc c v) = some (P.sub c 18) := fun T => isi_cls hc (by decide)
  have s19 : ∀ T, evIsi P.sub T (.cls 19) (.exc c v) = some (P.sub c 19) := fun T => isi_cls hc (by decide)
  have s20 : ∀ T, evIsi P.sub T (.cls 20) (.exc c v) = some (P.sub c 20) := fun T => isi_cls hc (by decide)
  have s21 : ∀ T, evIsi P.sub T (.cls 21) (.exc c v) = some (P.sub c 21) := fun T => isi_cls hc (by decide)
  have s22 : ∀ T, evIsi P.sub T (.cls 22) (.exc c v) = some (P.sub c 22) := fun T => isi_cls hc (by decide)
  have s23 : ∀ T, evIsi P.sub T (.cls 23) (.exc c v) = some (P.sub c 23) := fun T => isi_cls hc (by decide)
  have s24 : ∀ T, evIsi P.sub T (.cls 24) (.exc c v) = some (P.sub c 24) := fun T => isi_cls hc (by decide)
  have s25 : ∀ T, evIsi P.sub T (.cls 25) (.exc c v) = some (P.sub c 25) := fun T => isi_cls hc (by decide)
  have s26 : ∀ T, evIsi P.sub T (.cls 26) (.exc c v) = some (P.sub c 26) := fun T => isi_cls hc (by decide)
  have s27 : ∀ T, evIsi P.sub T (.cls 27) (.exc c v) = some (P.sub c 27) := fun T => isi_cls hc (by decide)
  have s28 : ∀ T, evIsi P.sub T (.cls 28) (.exc c v) = some (P.sub c 28) := fun T => isi_cls hc (by decide)
  have s29 : ∀ T, evIsi P.sub T (.cls 29) (.exc c v) = some (P.sub c 29) := fun T => isi_cls hc (by decide)
  have hp : PV.pures ((wordL c).filterMap keepW) = true := pures_all.mpr fun x hx => by
    obtain ⟨y, hy, e⟩ := List.mem_filterMap.mp hx
    obtain ⟨p, _, rfl⟩ := List.mem_map.mp hy
    cases hb : P.sub c p.2 <;> rw [hb] at e <;> cases e
    rfl
  rw [call_fn P6 rfl]
  simp only [f_law_words, List.map_cons, List.map_nil, List.cons_append, List.nil_append, List.replicate]
  rw [ex_cons, ex_asg]
  simp only [ev_lst, ev_cons, ev_nil, ev_tup, ev_cst, ev_isi, ev_var, List.getElem?_cons_zero, th_ok, fz_v, s1, s2, oBl_some, on_ok, sq_nx, bindR_f, List.set_cons_succ, List.set_cons_zero]
  iterate 13 rw [ex_cons, ext_ok rfl (fun T => by simp only [ev_cons, ev_nil, ev_tup, ev_cst, ev_isi, ev_var, List.getElem?_cons_zero, th_ok, fz_v, s1, s2, s3, s4, s5, s6, s7, s8, s9, s10, s11, s12, s13, s14, s15, s16, s17, s18, s19, s20, s21, s22, s23, s24, s25, s26, s27, s28, s29, oBl_some]; rfl) (by simp), sq_nx]
  have key : cGo P (callF P w n) S.length [2, 3] (.tup [.name 2, .name 3]) (some (.var 3)) (.var 2) [some (.exc c v), some (.loc S.length), none, none] (.loc S.length) (wordL c) (S ++ [.lst (wordL c)]) = .ok (.f (.lst ((wordL c).filterMap keepW))) (S ++ [.lst (wordL c)]) := by
    refine cGo_map keepW (same_loc (get_0 rfl)) fun x hx => ?_
    obtain ⟨p, _, rfl⟩ := List.mem_map.mp hx
    refine ⟨_, P.sub c p.2, rfl, rfl, fun h => ⟨.v (.str p.1), rfl, ?_⟩, fun h => ?_⟩
    · rw [h]; rfl
    · rw [h]; rfl
  rw [ex_cons, ex_ret, ev_comp, ev_var]
  simp only [List.getElem?_cons_succ, List.getElem?_cons_zero]
  rw [th_ok, fz_v, sq_loc, get_0 rfl]
  dsimp only
  rw [kCp_some]
  refine (congrArg _ (congrArg (fun o => SO.sq (SO.on o _ _) _) key)).trans ?_
  rw [on_ok, sq_rt, closeS_rt]
  exact (close_purel hp).trans (by rw [take_low rfl])
theorem words_at : ∀ p ∈ madeT, (wordL p.2).filterMap keepW = [.str p.1] := by
  intro p hp
  simp only [madeT, List.mem_cons, List.not_mem_nil, or_false] at hp
  rcases hp with rfl | rfl | rfl | rfl | rfl | rfl | rfl | rfl | rfl | rfl | rfl | rfl | rfl | rfl | rfl | rfl | rfl | rfl | rfl | rfl | rfl | rfl | rfl | rfl | rfl | rfl | rfl | rfl | rfl <;> rfl
theorem words_0 : (wordL 0).filterMap keepW = [] := rfl
end Lk42

open PySem PySem.Spec PyProof.Rows L2 Ip
namespace Lk42
def reprOk (v : PV) : Prop := ∃ s : Str, ∀ T, evBi T .repr [v] = some (.v (.str s))
theorem reprOk_of {v : PV} {d : PyData} (h1 : ∀ T, Ip.dataOf T v = some d) (h2 : (d.plain = true ∨ flatDct v = true) ∧ d.showable = true ∧ d.depth ≤ 64 ∧ d.shown.length + 64 ≤ big) : reprOk v := by
  refine ⟨d.shown, fun T => ?_⟩
  have e : evBi T .repr [v] = match Ip.dataOf T v with
    | some d => if (d.plain ∨ flatDct v) ∧ d.showable ∧ d.depth ≤ 64 ∧ d.shown.length + 64 ≤ big then some (.v (.str d.shown)) else none
    | none => none := rfl
  rw [e, h1]
  exact if_pos h2
theorem toDs_int (g : Nat → Option PyData) : ∀ r : List Int, PV.toDs g (r.map PV.int) = some (r.map PyData.int)
  | [] => rfl
  | i :: r => by
    show (match PV.toD g (.int i), PV.toDs g (r.map PV.int) with
      | some y, some ys => some (y :: ys)
      | _, _ => none) = _
    rw [toDs_int g r]
    rfl
theorem toDs_rows (g : Nat → Option PyData) : ∀ R : List (List Int), PV.toDs g (R.map fun r => .tup (r.map PV.int)) = some (R.map fun r => .tuple (r.map PyData.int))
  | [] => rfl
  | r :: R => by
    show (match PV.toD g (.tup (r.map PV.int)), PV.toDs g (R.map fun r => .tup (r.map PV.int)) with
      | some y, some ys => some (y :: ys)
      | _, _ => none) = _
    rw [toDs_rows g R]
    show (match (PV.toDs g (r.map PV.int)).map PyData.tuple, _ with
      | some y, some ys => some (y :: ys)
      | _, _ => none) = _
    rw [toDs_int g r]
    rfl
abbrev fzD (R : List (List Int)) : PyData := .tuple (R.map fun r => .tuple (r.map PyData.int))
theorem fz_data (R : List (List Int)) (T : Store) : Ip.dataOf T (fz R) = some (fzD R) := by
  show (PV.toDs _ _).map PyData.tuple = _
  rw [toDs_rows]
  rfl
theorem small_shown {i : Int} (h0 : 0 ≤ i) (h1 : i ≤ 100) : (PyData.shown (.int i)).length ≤ 3 ∧ PyData.showable (.int i) = true := by
  have key : ∀ m : Nat, m < 101 → (PyData.shown (.int (m : Int))).length ≤ 3 ∧ PyData.showable (.int (m : Int)) = true := by decide +kernel
  have := key i.toNat (by omega)
  rwa [show ((i.toNat : Nat) : Int) = i by omega] at this
theorem row_data {r : List Int} (h : ∀ v ∈ r, 0 ≤ v ∧ v ≤ 100) : (PyData.tuple (r.map PyData.int)).plain = true ∧ (PyData.tuple (r.map PyData.int)).showable = true ∧ (PyData.tuple (r.map PyData.int)).depth ≤ 1 ∧ (PyData.tuple (r.map PyData.int)).shown.length ≤ 5 * r.length + 3 := by
  have key : ∀ r : List Int, (∀ v ∈ r, 0 ≤ v ∧ v ≤ 100) → PyData.plainAll (r.map PyData.int) = true ∧ PyData.showableAll (r.map PyData.int) = true ∧ PyData.depthAll (r.map PyData.int) = 0 ∧ ((PyData.shownAll (r.map PyData.int)).map (·.length)).sum ≤ 3 * r.length ∧ (PyData.shownAll (r.map PyData.int)).length = r.length := by
    intro r
    induction r with
    | nil => exact fun _ => ⟨rfl, rfl, rfl, Nat.le_refl _, rfl⟩
    | cons i r ih =>
      intro h
      obtain ⟨h1, h2, h3, h4, h5⟩ := ih fun v hv => h v (List.mem_cons_of_mem _ hv)
      obtain ⟨a, b⟩ := small_shown (h i List.mem_cons_self).1 (h i List.mem_cons_self).2
      refine ⟨?_, ?_, ?_, ?_, ?_⟩
      · simp [PyData.plainAll, PyData.plain, h1]
      · simp only [List.map_cons, PyData.showableAll, b, h2, Bool.and_self]
      · simp [PyData.depthAll, PyData.depth, h3]
      · simp only [List.map_cons, PyData.shownAll, List.sum_cons, List.length_cons]
        omega
      · simp [PyData.shownAll, h5]
  obtain ⟨h1, h2, h3, h4, h5⟩ := key r h
  refine ⟨by simpa [PyData.plain] using h1, by simpa [PyData.showable] using h2, by simp [PyData.depth, h3], ?_⟩
  have := tupleText_len_le (PyData.shownAll (r.map PyData.int))
  rw [h5] at this
  show (tupleText _).length ≤ _
  omega
theorem fz_repr {R : List (List Int)} (h0 : R.length ≤ 50) (h : ∀ r ∈ R, r.length ≤ 50 ∧ ∀ v ∈ r, 0 ≤ v ∧ v ≤ 100) : reprOk (fz R) ∧ fitD (fzD R) = true := by
  have key : ∀ R : List (List Int), (∀ r ∈ R, r.length ≤ 50 ∧ ∀ v ∈ r, 0 ≤ v ∧ v ≤ 100) → PyData.plainAll (R.map fun r => .tuple (r.map PyData.int)) = true ∧ PyData.showableAll (R.map fun r => .tuple (r.map PyData.int)) = true ∧ PyData.depthAll (R.map fun r => .tuple (r.map PyData.int)) ≤ 1 ∧ ((PyData.shownAll (R.map fun r => .tuple (r.map PyData.int))).map (·.length)).sum ≤ 253 * R.length ∧ (PyData.shownAll (R.map fun r => .tuple (r.map PyData.int))).length = R.length := by
    intro R
    induction R with
    | nil => exact fun _ => ⟨rfl, rfl, by decide, Nat.le_refl _, rfl⟩
    | cons r R ih =>
      intro h
      obtain ⟨h1, h2, h3, h4, h5⟩ := ih fun v hv => h v (List.mem_cons_of_mem _ hv)
      obtain ⟨a1, a2, a3, a4⟩ := row_data (h r List.mem_cons_self).2
      have := (h r List.mem_cons_self).1
      refine ⟨?_, ?_, ?_, ?_, ?_⟩
      · simp only [List.map_cons, PyData.plainAll, a1, h1, Bool.and_self]
      · simp only [List.map_cons, PyData.showableAll, a2, h2, Bool.and_self]
      · simp only [List.map_cons, PyData.depthAll]
        omega
      · simp only [List.map_cons, PyData.shownAll, List.sum_cons, List.length_cons]
        omega
      · simp [PyData.shownAll, h5]
  obtain ⟨h1, h2, h3, h4, h5⟩ := key R h
  have hp : (fzD R).plain = true := by simpa [PyData.plain] using h1
  have hd : (fzD R).depth ≤ 64 := by simp only [PyData.depth]; omega
  refine ⟨reprOk_of (fz_data R) ⟨.inl hp, by simpa [PyData.showable] using h2, hd, ?_⟩, ?_⟩
  · have := tupleText_len_le (PyData.shownAll (R.map fun r => .tuple (r.map PyData.int)))
    rw [h5] at this
    show (tupleText _).length + 64 ≤ 16777216
    omega
  · unfold fitD
    rw [hp, decide_eq_true hd]
    rfl
theorem ne_self {S : Store} {q : PV} {d : PyData} (h : Ip.dataOf S q = some d) (hf : fitD d = true) : evCmp S .ne q q = some false ∧ evCmp S .eq q q = some true := by
  have hp : d.plain = true := by
    unfold fitD at hf
    simp only [Bool.and_eq_true] at hf
    exact hf.1
  have e1 : evCmp S .ne q q = match Ip.dataOf S q, Ip.dataOf S q with
    | some d, some e => if fitD d ∧ fitD e then some (!PyData.eqv d e) else none
    | _, _ => none := rfl
  have e2 : evCmp S .eq q q = match Ip.dataOf S q, Ip.dataOf S q with
    | some d, some e => if fitD d ∧ fitD e then some (PyData.eqv d e) else none
    | _, _ => none := rfl
  rw [e1, e2, h]
  have z := PySem.SeqAt.eqv_refl_plain d hp
  constructor
  · show (if fitD d = true ∧ fitD d = true then some (!PyData.eqv d d) else none) = _
    rw [if_pos ⟨hf, hf⟩, z]; rfl
  · show (if fitD d = true ∧ fitD d = true then some (PyData.eqv d d) else none) = _
    rw [if_pos ⟨hf, hf⟩, z]
end Lk42

open PySem PySem.Spec PyProof.Rows L2 Ip
namespace Lk42
theorem P2 : P.fns 2 = some f_law_right := rfl
def vals (R : List (List Int)) : List PV := [.non, .tup [], .str (Str.ofString ""), .int 0, fz R, .lst [.int 1], .dct [.str (Str.ofString "a")] [.int 1], .tup [.tup [], .tup []], .int (10 ^ 40), .str (Str.ofString "line")]
theorem vals_ok {R : List (List Int)} (h0 : R.length ≤ 50) (h : ∀ r ∈ R, r.length ≤ 50 ∧ ∀ v ∈ r, 0 ≤ v ∧ v ≤ 100) : ∀ v ∈ vals R, v.pure = true ∧ reprOk v := by
  intro v hv
  simp only [vals, List.mem_cons, List.not_mem_nil, or_false] at hv
  rcases hv with rfl | rfl | rfl | rfl | rfl | rfl | rfl | rfl | rfl | rfl
  · exact ⟨rfl, reprOk_of (d := .none) (fun T => rfl) (by decide +kernel)⟩
  · exact ⟨rfl, reprOk_of (d := .tuple []) (fun T => rfl) (by decide +kernel)⟩
  · exact ⟨rfl, reprOk_of (d := .str (Str.ofString "")) (fun T => rfl) (by decide +kernel)⟩
  · exact ⟨rfl, reprOk_of (d := .int 0) (fun T => rfl) (by decide +kernel)⟩
  · exact ⟨fz_pure R, (fz_repr h0 h).1⟩
  · exact ⟨rfl, reprOk_of (d := .list [.int 1]) (fun T => rfl) (by decide +kernel)⟩
  · exact ⟨rfl, reprOk_of (d := .dict [(.str (Str.ofString "a"), .int 1)]) (fun T => rfl) (by decide +kernel)⟩
  · exact ⟨rfl, reprOk_of (d := .tuple [.tuple [], .tuple []]) (fun T => rfl) (by decide +kernel)⟩
  · exact ⟨rfl, reprOk_of (d := .int (10 ^ 40)) (fun T => rfl) (by decide +kernel)⟩
  · exact ⟨rfl, reprOk_of (d := .str (Str.ofString "line")) (fun T => rfl) (by decide +kernel)⟩
/-- the turn of a made error -/
theorem turn_ok {w n : Nat} {S : Store} {v : PV} {n0 : Nat} {p : Str × Nat} {ρ : Rho} (hp : p ∈ madeT) (hr : reprOk v) (h3 : ρ[3]? = some (some v)) (h4 : ρ[4]? = some (some (.str p.1))) (h5 : ρ[5]? = some (some (.exc p.2 v))) :
    execSs P (callF P w (n + 1)) n0 w [.ifs (.or (.cmp .ne (.call 6 [(.var 5)]) (.lst [(.var 4)])) (.or (.not (.isi (.var 5) (.cls 0))) (.not (.isi (.var 5) .verr)))) [.ret (.cst (.bl false))] [], .ifs (.cmp .ne (.bi .repr [(.val (.var 5))]) (.bi .repr [(.var 3)])) [.ret (.cst (.bl false))] []] ρ S = .nx ρ S := by
  obtain ⟨s, hs⟩ := hr
  have sb : ∀ q ∈ madeT, P.sub q.2 q.2 = true ∧ P.sub q.2 0 = true := by decide
  obtain ⟨c1, c2⟩ := sb p hp
  have hw := words_ok (w := w) (n := n) (S := S) (v := v) c1
  rw [words_at p hp] at hw
  have e1 : evCmp S .ne (.lst [.str p.1]) (.lst [.str p.1]) = some false := (ne_self (d := .list [.str p.1]) rfl rfl).1
  have e2 : evCmp S .ne (.str s) (.str s) = some false := (ne_self (d := .str s) rfl rfl).1
  have i1 : evIsi P.sub S (.cls 0) (.exc p.2 v) = some true := by rw [isi_cls c1 (by decide), c2]
  have i2 : evIsi P.sub S .verr (.exc p.2 v) = some true := by simp [evIsi, c1]
  simp [h3, h4, h5, hw, e1, e2, i1, i2, c1, hs]
abbrev turnB : List IS := [.ifs (.or (.cmp .ne (.call 6 [(.var 5)]) (.lst [(.var 4)])) (.or (.not (.isi (.var 5) (.cls 0))) (.not (.isi (.var 5) .verr)))) [.ret (.cst (.bl false))] [], .ifs (.cmp .ne (.bi .repr [(.val (.var 5))]) (.bi .repr [(.var 3)])) [.ret (.cst (.bl false))] []]
theorem inner_ok {w n n0 : Nat} {S : Store} {v : PV} {b1 b2 b3 x4 x5 x6 : Option PV} (hv : v.pure = true) (hr : reprOk v) : ∃ y4 y5, execS P (callF P w (n + 1)) n0 w (.for_ (.tup [.name 4, .name 5]) (.call 5 [.var 3]) turnB) [b1, b2, b3, some v, x4, x5, x6] S = .nx [b1, b2, b3, some v, y4, y5, x6] S := by
  have hm := made_ok (w := w) (n := n) (S := S) hv
  obtain ⟨ρ', S', e, e1, _, y4, y5, e2⟩ := fGo_list (P := P) (cf := callF P w (n + 1)) (n0 := n0) (w := w) (tg := .tup [.name 4, .name 5]) (b := turnB) (p := .lst (madeL v)) (xs := madeL v) (ρ := [b1, b2, b3, some v, x4, x5, x6]) (S := S)
    (fun r ρ S' => S' = S ∧ (∀ x ∈ r, ∃ p ∈ madeT, x = .tup [.str p.1, .exc p.2 v]) ∧ ∃ x4 x5, ρ = [b1, b2, b3, some v, x4, x5, x6]) held_lst ⟨rfl, fun x hx => by
      obtain ⟨p, hp, rfl⟩ := List.mem_map.mp hx
      exact ⟨p, hp, rfl⟩, x4, x5, rfl⟩ fun x r ρ S' h => by
    obtain ⟨rfl, h2, z4, z5, rfl⟩ := h
    obtain ⟨p, hp, rfl⟩ := h2 x List.mem_cons_self
    refine ⟨_, _, _, rfl, turn_ok hp hr rfl rfl rfl, rfl, fun y hy => h2 y (List.mem_cons_of_mem _ hy), _, _, rfl⟩
  subst e1 e2
  refine ⟨y4, y5, ?_⟩
  rw [ex_for, ev_call, ev_cons, ev_var]
  simp only [List.getElem?_cons_succ, List.getElem?_cons_zero]
  rw [th_ok, ev_nil, th_ok, th_ok, fz_v, hm, on_ok, fz_f, sq_lst, kFor_some, e]
theorem right_ok {w n k : Nat} {S : Store} {c : Int} (h : Bx S k c) (hc : c + 3000 < 2 ^ 60) : ∃ X, callF P w (n + 4) 2 [.loc k] S = .ok (.v (.bl true)) (S.set k X) ∧ Bx (S.set k X) k (c + 3000) := by
  obtain ⟨R, X1, w1, w2, w3, w4⟩ := web_ok (w := w) (n := n + 1) (pl := 3) (mo := 3) h (by omega) (by omega) (by omega)
  have hA : ∀ X, (S.set k X).length = S.length := fun X => List.length_set
  have hv := vals_ok w2 w3
  have hpv : PV.pures (vals R) = true := pures_all.mpr fun x hx => (hv x hx).1
  have hk1 : (S.set k X1)[k]? = some X1 := by
    obtain ⟨x, hx⟩ := h.lt
    exact List.getElem?_set_self (List.getElem?_eq_some_iff.mp hx).1
  obtain ⟨ys, X2, s1, s2, s3⟩ := some_ok (w := w) (n := n) (m := 4) (p := .loc S.length) (xs := vals R) (w4.low (T := [.lst (vals R)])) (by simp [vals]; omega) (fun T => by rw [sq_loc, List.append_assoc, List.singleton_append, get_0 (hA X1)]) hpv (by simp [vals])
  rw [set_low hk1, List.set_set] at s1 s3
  have s4 := s3.up (List.getElem?_set_self (by have := (List.getElem?_eq_some_iff.mp hk1).1; rw [List.length_set] at this; exact this))
  obtain ⟨ρ', S', e, e1, _, y3, y4, y5, e2⟩ := fGo_list (P := P) (cf := callF P w (n + 3)) (n0 := S.length) (w := w) (tg := .name 3) (b := [.for_ (.tup [.name 4, .name 5]) (.call 5 [.var 3]) turnB]) (p := .lst ys) (xs := ys) (ρ := [some (.loc k), some (fz R), some (.loc S.length), none, none, none, none]) (S := S.set k X2 ++ [.lst (vals R)])
    (fun r ρ S' => S' = S.set k X2 ++ [.lst (vals R)] ∧ (∀ x ∈ r, x ∈ vals R) ∧ ∃ x3 x4 x5, ρ = [some (.loc k), some (fz R), some (.loc S.length), x3, x4, x5, none]) held_lst ⟨rfl, s2, none, none, none, rfl⟩ fun x r ρ S' h => by
    obtain ⟨rfl, h2, z3, z4, z5, rfl⟩ := h
    obtain ⟨h3, h4⟩ := hv x (h2 x List.mem_cons_self)
    obtain ⟨y4, y5, e3⟩ := inner_ok (w := w) (n := n + 2) (n0 := S.length) (S := S.set k X2 ++ [.lst (vals R)]) (b1 := some (.loc k)) (b2 := some (fz R)) (b3 := some (.loc S.length)) (x4 := z4) (x5 := z5) (x6 := none) h3 h4
    exact ⟨_, _, _, rfl, by rw [ex_cons]; simp only [List.set_cons_succ, List.set_cons_zero]; rw [e3, sq_nx, ex_nil], rfl, fun y hy => h2 y (List.mem_cons_of_mem _ hy), _, _, _, rfl⟩
  subst e1 e2
  refine ⟨X2, ?_, by
    obtain ⟨a, b, d, h1, h2, h3, h4, h5, h6⟩ := s4
    exact ⟨a, b, d, h1, h2, h3, h4, h5, by simp [vals] at h6; omega⟩⟩
  rw [show ((4 : Nat) : Int) = 4 from rfl] at s1
  have c1 : evalE P (callF P w (n + 3)) S.length (.call 3 [.var 0, .cst (.int 3), .cst (.int 3)]) [some (.loc k), none, none, none, none, none, none] S = .ok (.v (fz R)) (S.set k X1) := by
    rw [ev_call, ev_cons, ev_var]
    simp only [List.getElem?_cons_zero, ev_cons, ev_nil, ev_cst, th_ok, fz_v]
    exact w1
  have hl : Nat.log2 10 * 40 < 1000000 := by decide +kernel
  have c2 : ∀ A : Store, evalE P (callF P w (n + 3)) S.length (.lst [(.cst .non), (.tup []), (.cst (.str (Str.ofString ""))), (.cst (.int 0)), (.var 1), (.lst [(.cst (.int 1))]), (.dct1 (.cst (.str (Str.ofString "a"))) (.cst (.int 1))), (.tup [(.tup []), (.tup [])]), (.bin .pow (.cst (.int 10)) (.cst (.int 40))), (.cst (.str (Str.ofString "line")))]) [some (.loc k), some (fz R), none, none, none, none, none] A = .ok (.f (.lst (vals R))) A := fun A => by
    simp [vals, isKey, hl]
  have c3 : evalE P (callF P w (n + 3)) S.length (.call 4 [.var 0, .var 2, .cst (.int 4)]) [some (.loc k), some (fz R), some (.loc S.length), none, none, none, none] (S.set k X1 ++ [.lst (vals R)]) = .ok (.f (.lst ys)) (S.set k X2 ++ [.lst (vals R)]) := by
    rw [ev_call, ev_cons, ev_var]
    simp only [List.getElem?_cons_zero, List.getElem?_cons_succ, ev_cons, ev_nil, ev_cst, ev_var, th_ok, fz_v]
    exact s1
  have hw0 : ∀ A, callF P w (n + 3) 6 [.exc 0 (fz R)] A = .ok (.f (.lst [])) A := fun A => by
    have := words_ok (w := w) (n := n + 2) (c := 0) (S := A) (v := fz R) (by decide)
    rwa [words_0] at this
  have q1 : ∀ A, evCmp A .eq (.lst []) (.lst []) = some true := fun A => (ne_self (d := .list []) rfl rfl).2
  have q2 : ∀ A, evCmp A .eq (fz R) (fz R) = some true := fun A => (ne_self (fz_data R A) (fz_repr w2 w3).2).2
  have q3 : ∀ A, evIsi P.sub A .verr (.exc 0 (fz R)) = some true := fun A => by
    have : P.sub 0 0 = true := by decide
    simp [evIsi, this]
  have q4 : P.sub 0 0 = true := by decide
  have c4 : ∀ A : Store, evalE P (callF P w (n + 3)) S.length (.and (.cmp .eq (.call 6 [(.var 6)]) (.lst [])) (.and (.cmp .eq (.val (.var 6)) (.var 1)) (.isi (.var 6) .verr))) [some (.loc k), some (fz R), some (.loc S.length), y3, y4, y5, some (.exc 0 (fz R))] A = .ok (.v (.bl true)) A := fun A => by
    simp [hw0, q1, q2, q3, q4]
  rw [call_fn P2 rfl]
  simp only [f_law_right, List.map_cons, List.map_nil, List.cons_append, List.nil_append, List.replicate]
  rw [ex_cons, ex_asg, c1, on_ok, sq_nx, bindR_v, ex_cons, ex_asg]
  simp only [List.set_cons_succ, List.set_cons_zero]
  rw [c2, on_ok, sq_nx, bindR_f, hA X1, ex_cons, ex_for]
  simp only [List.set_cons_succ, List.set_cons_zero]
  rw [c3, on_ok, fz_f, sq_lst, kFor_some, e, sq_nx, ex_cons, ex_asg, ev_mk, ev_var]
  simp only [List.getElem?_cons_succ, List.getElem?_cons_zero]
  rw [th_ok, fz_v, on_ok, sq_nx, bindR_v, ex_cons, ex_ret]
  simp only [List.set_cons_succ, List.set_cons_zero]
  rw [c4, on_ok, sq_rt, closeS_rt, close_pure rfl, take_low (hA X2)]
end Lk42

open PySem PySem.Spec PyProof.Rows L2 Ip
namespace Lk42
theorem P1 : P.fns 1 = some f_law_box := rfl
theorem P0 : P.fns 0 = some flaw := rfl
theorem pow_ok {cf : Nat → List PV → Store → Out RV} {n0 : Nat} : ∃ N : Int, 0 < N ∧ ∀ ρ A, evalE P cf n0 (.bin .pow (.bin .pow (.cst (.int 10)) (.cst (.int 60))) (.cst (.int 5))) ρ A = .ok (.v (.int N)) A := by
  have h1 : Ip.binI .pow 10 60 = some (10 ^ 60) := by rw [bi_pow, if_pos (by decide +kernel)]; rfl
  have h2 : Ip.binI .pow (10 ^ 60) 5 = some ((10 ^ 60) ^ 5) := by rw [bi_pow, if_pos (by decide +kernel)]; rfl
  refine ⟨(10 ^ 60) ^ 5, by decide +kernel, fun ρ A => ?_⟩
  rw [ev_bin, ev_bin, ev_cst, th_ok, ev_cst, th_ok, fz_v, fz_v, bin_int, h1, Option.map_some, oRv_some, th_ok, ev_cst, th_ok, fz_v, fz_v, bin_int, h2, Option.map_some, oRv_some]
theorem pow2_ok {cf : Nat → List PV → Store → Out RV} {n0 : Nat} : ∃ N : Int, 0 < N ∧ ∀ ρ A, evalE P cf n0 (.bin .pow (.cst (.int 10)) (.cst (.int 18))) ρ A = .ok (.v (.int N)) A := by
  have h1 : Ip.binI .pow 10 18 = some (10 ^ 18) := by rw [bi_pow, if_pos (by decide +kernel)]; rfl
  refine ⟨10 ^ 18, by decide +kernel, fun ρ A => ?_⟩
  rw [ev_bin, ev_cst, th_ok, ev_cst, th_ok, fz_v, fz_v, bin_int, h1, Option.map_some, oRv_some]
theorem box_ok {w n : Nat} {S : Store} {ns : List Int} {i : Nat} (hi : i ≤ 1) : ∃ a b : Int, callF P w (n + 1) 1 [.slst (ns.map PV.int), .int i] S = .ok (.f (.lst [.int a, .int b, .int 0])) S ∧ 0 ≤ a ∧ 0 ≤ b ∧ b < 2305843009213693921 := by
  obtain ⟨D, hD⟩ : ∃ D : Int, evalE P (callF P w n) S.length (.ite (.cmp .lt (.var 1) (.bi .len [(.var 0)])) (.idx (.var 0) (.var 1)) (.bin .add (.bin .mul (.cst (.int 97)) (.var 1)) (.cst (.int 59)))) [some (.slst (ns.map PV.int)), some (.int i), none, none] S = .ok (.v (.int D)) S := by
    by_cases h : i < ns.length
    · have h' : (i : Int) < (ns.length : Int) := by omega
      have e : oI (ns.map PV.int) (i : Int) = some (.int ns[i]) := by
        rw [oI_nat, List.getElem?_map, List.getElem?_eq_getElem h]
        rfl
      exact ⟨ns[i], by simp [h, e]⟩
    · have h' : ¬ (i : Int) < (ns.length : Int) := by omega
      have m1 : mulOk 97 (i : Int) = true := mul_l (by decide)
      exact ⟨97 * i + 59, by simp [h, m1]⟩
  obtain ⟨N, hN, p1⟩ := pow_ok (cf := callF P w n) (n0 := S.length)
  obtain ⟨N2, hN2, p2⟩ := pow2_ok (cf := callF P w n) (n0 := S.length)
  obtain ⟨Q, hQ⟩ : ∃ Q : Int, Q = if D < 0 then -D else D := ⟨_, rfl⟩
  obtain ⟨u, hu⟩ : ∃ u : Int, u = if N2 ≤ Q then 1 else 0 := ⟨_, rfl⟩
  have hu1 : u = 1 ∨ u = 0 := by rw [hu]; split <;> simp
  have c2 : evalE P (callF P w n) S.length (.bin .mul (.bin .mod (.bi .int [(.bi .abs [(.var 2)])]) (.bin .pow (.bin .pow (.cst (.int 10)) (.cst (.int 60))) (.cst (.int 5)))) (.bi .int [(.cmp .ge (.bi .abs [(.var 2)]) (.bin .pow (.cst (.int 10)) (.cst (.int 18))))])) [some (.slst (ns.map PV.int)), some (.int i), some (.int D), none] S = .ok (.v (.int (Q % N * u))) S := by
    have m1 : mulOk (Q % N) u = true := mul_r (by rcases hu1 with h | h <;> rw [h] <;> decide)
    have a0 : evalE P (callF P w n) S.length (.bi .abs [(.var 2)]) [some (.slst (ns.map PV.int)), some (.int i), some (.int D), none] S = .ok (.v (.int Q)) S := by
      rw [hQ]
      simp
    have a1 : evalE P (callF P w n) S.length (.bi .int [(.bi .abs [(.var 2)])]) [some (.slst (ns.map PV.int)), some (.int i), some (.int D), none] S = .ok (.v (.int Q)) S := by
      rw [ev_bi, ev_cons, a0, th_ok, ev_nil, th_ok, th_ok, fz_v, b_int, oRv_some]
    have a2 : evalE P (callF P w n) S.length (.bi .int [(.cmp .ge (.bi .abs [(.var 2)]) (.bin .pow (.cst (.int 10)) (.cst (.int 18))))]) [some (.slst (ns.map PV.int)), some (.int i), some (.int D), none] S = .ok (.v (.int u)) S := by
      rw [ev_bi, ev_cons, ev_cmp, a0, th_ok, p2, th_ok, fz_v, fz_v, cmp_ge, oBl_some, th_ok, ev_nil, th_ok, th_ok, fz_v, b_intb, oRv_some, hu]
      simp only [decide_eq_true_eq]
    rw [ev_bin, ev_bin, a1, th_ok, p1, th_ok, fz_v, fz_v, bin_int, bi_mod, if_pos hN, Option.map_some, oRv_some, th_ok, a2, th_ok, fz_v, fz_v, bin_int, bi_mul, m1, if_pos rfl, Option.map_some, oRv_some]
  have m2 : mulOk (D % 2305843009213693951) 74101 = true := mul_r (by decide)
  have m3 : mulOk 8111 (i : Int) = true := mul_l (by decide)
  have m4 : mulOk (8111 * (i : Int)) (i : Int) = true := mul_r (by omega)
  refine ⟨Q % N * u, (D % 2305843009213693951 * 74101 + 8111 * i * i + 83) % 2305843009213693921, ?_, ?_, Int.emod_nonneg _ (by decide), Int.emod_lt_of_pos _ (by decide)⟩
  · rw [call_fn P1 rfl]
    simp only [f_law_box, List.map_cons, List.map_nil, List.cons_append, List.nil_append, List.replicate]
    rw [ex_cons, ex_asg, hD, on_ok, sq_nx, bindR_v, ex_cons, ex_asg]
    simp only [List.set_cons_succ, List.set_cons_zero]
    rw [c2, on_ok, sq_nx, bindR_v, ex_cons, ex_ret]
    simp [m2, m3, m4]
    exact (close_purel (by simp [PV.pures])).trans (by rw [List.take_length])
  · have : 0 ≤ Q % N := Int.emod_nonneg _ (by omega)
    rcases hu1 with h | h <;> rw [h] <;> omega
abbrev lawB : List IS := [.asg 2 (.call 1 [(.var 0), (.var 1)]), .ifs (.not (.bi .all [(.comp [3] (.name 3) (.rng [(.cst (.int 1))]) none (.call 2 [(.var 2)]))])) [.ret (.cst (.bl false))] []]
theorem law_turn {w n i : Nat} {ns : List Int} {S : Store} {x1 x2 : Option PV} (hi : i ≤ 1) : ∃ S', execSs P (callF P w (n + 4)) 0 w lawB [some (.slst (ns.map PV.int)), some (.int i), x2, none] S = .nx [some (.slst (ns.map PV.int)), some (.int i), some (.loc S.length), none] S' := by
  obtain ⟨a, b, e1, h1, h2, h3⟩ := box_ok (w := w) (n := n + 3) (S := S) (ns := ns) hi
  have hB : Bx (S ++ [.lst [.int a, .int b, .int 0]]) S.length 0 := ⟨a, b, 0, get_0 rfl, h1, h2, by omega, h3, by omega⟩
  obtain ⟨X, e2, _⟩ := right_ok (w := w) (n := n) hB (by omega)
  obtain ⟨ys, S', e3, h⟩ := cGo_list (P := P) (cf := callF P w (n + 4)) (n0 := 0) (own := [3]) (tg := .name 3) (cond := none) (elt := .call 2 [.var 2]) (p := .lst (rngs 0 1)) (xs := rngs 0 1) (ρ := [some (.slst (ns.map PV.int)), some (.int i), some (.loc S.length), none]) (S := S ++ [.lst [.int a, .int b, .int 0]])
    (fun r ys S' => (r = [.int 0] ∧ ys = [] ∧ S' = S ++ [.lst [.int a, .int b, .int 0]]) ∨ (r = [] ∧ ys = [.bl true])) held_lst (.inl ⟨rfl, rfl, rfl⟩) fun x r ys S' h => by
    rcases h with ⟨h, rfl, rfl⟩ | ⟨h, _⟩
    · cases h
      refine ⟨_, true, _, rfl, rfl, fun _ => ⟨.v (.bl true), List.set (S ++ [Cell.lst [.int a, .int b, .int 0]]) S.length X, ?_, .inr ⟨rfl, rfl⟩⟩, fun h => by cases h⟩
      rw [ev_call, ev_cons, ev_var]
      simp only [wipeE, List.set_cons_succ, List.set_cons_zero, List.getElem?_cons_succ, List.getElem?_cons_zero, ev_nil, th_ok, fz_v]
      exact e2
    · cases h
  obtain rfl : ys = [.bl true] := by
    rcases h with ⟨h, _⟩ | ⟨_, h⟩
    · cases h
    · exact h
  have c1 : evalE P (callF P w (n + 4)) 0 (.call 1 [(.var 0), (.var 1)]) [some (.slst (ns.map PV.int)), some (.int i), x2, none] S = .ok (.f (.lst [.int a, .int b, .int 0])) S := by
    rw [ev_call, ev_cons, ev_var]
    simp only [List.getElem?_cons_succ, List.getElem?_cons_zero, ev_cons, ev_nil, ev_var, th_ok, fz_v]
    exact e1
  have q1 : -(2 ^ 62) ≤ (1 : Int) ∧ (1 : Int) ≤ big := by decide
  have al : evBi S' .all [.lst [.bl true]] = some (.v (.bl true)) := rfl
  refine ⟨S', ?_⟩
  rw [ex_cons, ex_asg, c1, on_ok, sq_nx, bindR_f, ex_cons, ex_ifs, et_eq]
  simp only [List.set_cons_succ, List.set_cons_zero]
  rw [ev_not, ev_bi, ev_cons, ev_comp, ev_rng1, ev_cst, th_ok, fz_v]
  dsimp only
  rw [if_pos q1, th_ok, fz_f, sq_lst, kCp_some]
  rw [show ((1 : Int).toNat) = 1 from rfl, e3, th_ok, ev_nil, th_ok, th_ok, fz_f, al, oRv_some, th_ok]
  dsimp only
  rw [th_ok]
  dsimp only
  rw [on_ok, Bool.not_true, kB_f, ex_nil, sq_nx, ex_nil]
theorem ev : ∀ ns : List Int, ns.length ≤ 63 → ∃ S, callF P 100 40 0 [.slst (ns.map PV.int)] [] = .ok (.v (.bl true)) S := by
  intro ns _
  obtain ⟨M, hM, hM2⟩ : ∃ M : Nat, (if (if (ns.length : Int) < 2 then (ns.length : Int) else 2) > 1 then (if (ns.length : Int) < 2 then (ns.length : Int) else 2) else 1) = (M : Int) ∧ M ≤ 2 := by
    by_cases h : (ns.length : Int) < 2
    · rw [if_pos h]
      by_cases h2 : (ns.length : Int) > 1
      · exact ⟨ns.length, if_pos h2, by omega⟩
      · exact ⟨1, if_neg h2, by omega⟩
    · rw [if_neg h]
      exact ⟨2, rfl, by omega⟩
  obtain ⟨ρ', S', e, x1, x2, rfl⟩ := fGo_rng (P := P) (cf := callF P 100 39) (n0 := 0) (w := 100) (tg := .name 1) (b := lawB) (ρ := [some (.slst (ns.map PV.int)), none, none, none]) (S := []) (fun i ρ S' => ∃ x1 x2, ρ = [some (.slst (ns.map PV.int)), x1, x2, none]) M ⟨none, none, rfl⟩ fun i ρ S' hi h => by
    obtain ⟨x1, x2, rfl⟩ := h
    obtain ⟨S2, e⟩ := law_turn (w := 100) (n := 35) (i := i) (ns := ns) (S := S') (x1 := x1) (x2 := x2) (by omega)
    exact ⟨_, _, S2, rfl, e, _, _, rfl⟩
  have q1 : -(2 ^ 62) ≤ (M : Int) ∧ (M : Int) ≤ big := by
    have hb : (big : Nat) = 16777216 := rfl
    rw [hb]
    omega
  have c1 : evalE P (callF P 100 39) 0 (.bi .max [(.cst (.int 1)), (.bi .min [(.cst (.int 2)), (.bi .len [(.var 0)])])]) [some (.slst (ns.map PV.int)), none, none, none] [] = .ok (.v (.int M)) [] := by
    rw [← hM]
    simp
  refine ⟨S'.take 0, ?_⟩
  have fin : callF P 100 (39 + 1) 0 [.slst (ns.map PV.int)] [] = .ok (.v (.bl true)) (S'.take 0) := ?_
  · exact fin
  rw [call_fn P0 rfl]
  simp only [flaw, List.map_cons, List.map_nil, List.cons_append, List.nil_append, List.replicate, List.length_nil]
  rw [ex_cons, ex_for, ev_rng1, c1, th_ok, fz_v]
  dsimp only
  rw [if_pos q1, on_ok, fz_f, sq_lst, kFor_some, Int.toNat_natCast, e, sq_nx, ex_cons, ex_ret, ev_cst, on_ok, sq_rt, closeS_rt, close_pure rfl]
end Lk42

open PySem PySem.Spec PyProof.Rows L2 Ip
namespace Lk42
theorem all_mk {wd : World} {K : PySem.W.Frag} {h : Heap} {mg : Str → Option Value} {fa : Addr} (X : K.In h) (G : h.Ns mainGlobals mg) (hfa : mg "law" = some (.ref fa))
    {g0 : Addr} {od0 an0 : Option Addr} {sl0 : Array (Option Value)} {oc0 kV0 dc0 pm0 cd0 ct0 : Value}
    {g1 : Addr} {od1 an1 : Option Addr} {sl1 : Array (Option Value)} {oc1 kV1 dc1 pm1 cd1 ct1 : Value}
    {g2 : Addr} {od2 an2 : Option Addr} {sl2 : Array (Option Value)} {oc2 kV2 dc2 pm2 cd2 ct2 : Value}
    {g3 : Addr} {od3 an3 : Option Addr} {sl3 : Array (Option Value)} {oc3 kV3 dc3 pm3 cd3 ct3 : Value}
    {g4 : Addr} {od4 an4 : Option Addr} {sl4 : Array (Option Value)} {oc4 kV4 dc4 pm4 cd4 ct4 : Value}
    {g5 : Addr} {od5 an5 : Option Addr} {sl5 : Array (Option Value)} {oc5 kV5 dc5 pm5 cd5 ct5 : Value}
    {g6 : Addr} {od6 an6 : Option Addr} {sl6 : Array (Option Value)} {oc6 kV6 dc6 pm6 cd6 ct6 : Value}
    {g7 : Addr} {od7 an7 : Option Addr} {sl7 : Array (Option Value)} {oc7 kV7 dc7 pm7 cd7 ct7 : Value}
    {g8 : Addr} {od8 an8 : Option Addr} {sl8 : Array (Option Value)} {oc8 kV8 dc8 pm8 cd8 ct8 : Value}
    {g9 : Addr} {od9 an9 : Option Addr} {sl9 : Array (Option Value)} {oc9 kV9 dc9 pm9 cd9 ct9 : Value}
    {fI D cda cc : Addr} {nm qual : Str} {dV kV doc pm ct oc cl ccl : Value} {an od cld ccd : Option Addr} {osl csl ccs : Array (Option Value)} {vs : Array Value} {cdD : ClassData} {p0 p1 p2 p3 p4 p5 p6 p7 p8 p9 : Pos}
    (a0 : PySem.W.nsIn K mainGlobals "law" = some (some (.ref g0))) (l0 : K.lookup g0 = some ⟨oc0, od0, .func (PySem.W.fnOf "law" "law" (defArgs (txt 41)) (defBody (txt 41)) (defScope (txt 41)) .none kV0 dc0 pm0 an0 cd0 ct0), sl0⟩) (c0 : PySem.W.codeIn K cd0 "law" = true) (k0 : PySem.W.keepIn K (.ref g0) = true)
    (a1 : PySem.W.nsIn K mainGlobals "_law_box" = some (some (.ref g1))) (l1 : K.lookup g1 = some ⟨oc1, od1, .func (PySem.W.fnOf "_law_box" "_law_box" (defArgs (txt 32)) (defBody (txt 32)) (defScope (txt 32)) .none kV1 dc1 pm1 an1 cd1 ct1), sl1⟩) (c1 : PySem.W.codeIn K cd1 "_law_box" = true) (k1 : PySem.W.keepIn K (.ref g1) = true)
    (a2 : PySem.W.nsIn K mainGlobals "_law_right" = some (some (.ref g2))) (l2 : K.lookup g2 = some ⟨oc2, od2, .func (PySem.W.fnOf "_law_right" "_law_right" (defArgs (txt 40)) (defBody (txt 40)) (defScope (txt 40)) .none kV2 dc2 pm2 an2 cd2 ct2), sl2⟩) (c2 : PySem.W.codeIn K cd2 "_law_right" = true) (k2 : PySem.W.keepIn K (.ref g2) = true)
    (a3 : PySem.W.nsIn K mainGlobals "_law_web" = some (some (.ref g3))) (l3 : K.lookup g3 = some ⟨oc3, od3, .func (PySem.W.fnOf "_law_web" "_law_web" (defArgs (txt 37)) (defBody (txt 37)) (defScope (txt 37)) .none kV3 dc3 pm3 an3 cd3 ct3), sl3⟩) (c3 : PySem.W.codeIn K cd3 "_law_web" = true) (k3 : PySem.W.keepIn K (.ref g3) = true)
    (a4 : PySem.W.nsIn K mainGlobals "_law_some" = some (some (.ref g4))) (l4 : K.lookup g4 = some ⟨oc4, od4, .func (PySem.W.fnOf "_law_some" "_law_some" (defArgs (txt 35)) (defBody (txt 35)) (defScope (txt 35)) .none kV4 dc4 pm4 an4 cd4 ct4), sl4⟩) (c4 : PySem.W.codeIn K cd4 "_law_some" = true) (k4 : PySem.W.keepIn K (.ref g4) = true)
    (a5 : PySem.W.nsIn K mainGlobals "_law_made" = some (some (.ref g5))) (l5 : K.lookup g5 = some ⟨oc5, od5, .func (PySem.W.fnOf "_law_made" "_law_made" (defArgs (txt 38)) (defBody (txt 38)) (defScope (txt 38)) .none kV5 dc5 pm5 an5 cd5 ct5), sl5⟩) (c5 : PySem.W.codeIn K cd5 "_law_made" = true) (k5 : PySem.W.keepIn K (.ref g5) = true)
    (a6 : PySem.W.nsIn K mainGlobals "_law_words" = some (some (.ref g6))) (l6 : K.lookup g6 = some ⟨oc6, od6, .func (PySem.W.fnOf "_law_words" "_law_words" (defArgs (txt 39)) (defBody (txt 39)) (defScope (txt 39)) .none kV6 dc6 pm6 an6 cd6 ct6), sl6⟩) (c6 : PySem.W.codeIn K cd6 "_law_words" = true) (k6 : PySem.W.keepIn K (.ref g6) = true)
    (a7 : PySem.W.nsIn K mainGlobals "_law_take" = some (some (.ref g7))) (l7 : K.lookup g7 = some ⟨oc7, od7, .func (PySem.W.fnOf "_law_take" "_law_take" (defArgs (txt 33)) (defBody (txt 33)) (defScope (txt 33)) .none kV7 dc7 pm7 an7 cd7 ct7), sl7⟩) (c7 : PySem.W.codeIn K cd7 "_law_take" = true) (k7 : PySem.W.keepIn K (.ref g7) = true)
    (a8 : PySem.W.nsIn K mainGlobals "_law_frozen" = some (some (.ref g8))) (l8 : K.lookup g8 = some ⟨oc8, od8, .func (PySem.W.fnOf "_law_frozen" "_law_frozen" (defArgs (txt 36)) (defBody (txt 36)) (defScope (txt 36)) .none kV8 dc8 pm8 an8 cd8 ct8), sl8⟩) (c8 : PySem.W.codeIn K cd8 "_law_frozen" = true) (k8 : PySem.W.keepIn K (.ref g8) = true)
    (a9 : PySem.W.nsIn K mainGlobals "_law_mixed" = some (some (.ref g9))) (l9 : K.lookup g9 = some ⟨oc9, od9, .func (PySem.W.fnOf "_law_mixed" "_law_mixed" (defArgs (txt 34)) (defBody (txt 34)) (defScope (txt 34)) .none kV9 dc9 pm9 an9 cd9 ct9), sl9⟩) (c9 : PySem.W.codeIn K cd9 "_law_mixed" = true) (k9 : PySem.W.keepIn K (.ref g9) = true)
    (xD : PySem.W.nsIn K mainGlobals "WebError" = some (some (.ref D))) (xI : PySem.W.findIn K (.ref D) "__init__" = some (some (.ref fI))) (xl : K.lookup fI = some ⟨oc, od, .func (PySem.W.ksFn nm qual (defArgs (inSt (txt 1))) (supBody p0 p1 p2 p3 p4 p5 p6 p7 p8 p9) (defScope (inSt (txt 1))) dV kV doc pm an (.ref cda) ct cc), osl⟩) (xc : PySem.W.codeIn K (.ref cda) qual = true) (xa : K.lookup cda = some ⟨ccl, ccd, .fields vs, ccs⟩) (xv : fileOk PySem.Challenge.rw_onesidedalike_k42_whole_errors_that_keep.prog vs = true) (xe : K.lookup cc = some ⟨cl, cld, .cell (some (.ref D)), csl⟩) (xk : PySem.W.clsIn K D = some cdD) (xp : (p2.endLine == p4.line) = true) (xb : ∀ us : List Value, us.length = 2 → bindArgs (PySem.W.ksFn nm qual (defArgs (inSt (txt 1))) (supBody p0 p1 p2 p3 p4 p5 p6 p7 p8 p9) (defScope (inSt (txt 1))) dV kV doc pm an (.ref cda) ct cc) ⟨us, []⟩ = pure ((["self", "value"] : List Str).zip us)) (xt : PySem.W.typeIn K (.ref fI) = some (.type "function")) (xn : PySem.W.nsIn K PySem.cStatics "thirdparty.any" = some none)
    (xz : clsesB cls K fI D = true)
    (xy : bltB K = true) :
    ∃ (fd : FuncData) (ca : Nat → Addr), (∀ (s : Shared) (u : Value), BindsTo s fd ⟨[u], []⟩ [("script", u)]) ∧ ∀ base : Heap, FnG PySem.Challenge.rw_onesidedalike_k42_whole_errors_that_keep.prog wd K mg base (40 + 1) fa fd ["script"] (spF K ca P 100 40 0 1) := by
  have e0 := hfa.symm.trans (PySem.W.mg_of X G a0)
  cases e0
  have F0 := fun_mk (st := txt 41) l0 c0 k0
  have F1 := fun_mk (st := txt 32) l1 c1 k1
  have F2 := fun_mk (st := txt 40) l2 c2 k2
  have F3 := fun_mk (st := txt 37) l3 c3 k3
  have F4 := fun_mk (st := txt 35) l4 c4 k4
  have F5 := fun_mk (st := txt 38) l5 c5 k5
  have F6 := fun_mk (st := txt 39) l6 c6 k6
  have F7 := fun_mk (st := txt 33) l7 c7 k7
  have F8 := fun_mk (st := txt 36) l8 c8 k8
  have F9 := fun_mk (st := txt 34) l9 c9 k9
  have rows : ∀ f x, T.fnN f = some x → FnRow K mg P T f x := fun f x e => by
    match f, e with
    | 0, e => cases e; exact ⟨_, _, _, _, _, _, _, _, _, PySem.W.mg_of X G a0, F0.binds fun _ _ _ _ _ _ us hl => match us, hl with | [_], _ => rfl, F0, sclaw, rfl, rfl, rfl, oklaw⟩
    | 1, e => cases e; exact ⟨_, _, _, _, _, _, _, _, _, PySem.W.mg_of X G a1, F1.binds fun _ _ _ _ _ _ us hl => match us, hl with | [_, _], _ => rfl, F1, sc_law_box, rfl, rfl, rfl, ok_law_box⟩
    | 2, e => cases e; exact ⟨_, _, _, _, _, _, _, _, _, PySem.W.mg_of X G a2, F2.binds fun _ _ _ _ _ _ us hl => match us, hl with | [_], _ => rfl, F2, sc_law_right, rfl, rfl, rfl, ok_law_right⟩
    | 3, e => cases e; exact ⟨_, _, _, _, _, _, _, _, _, PySem.W.mg_of X G a3, F3.binds fun _ _ _ _ _ _ us hl => match us, hl with | [_, _, _], _ => rfl, F3, sc_law_web, rfl, rfl, rfl, ok_law_web⟩
    | 4, e => cases e; exact ⟨_, _, _, _, _, _, _, _, _, PySem.W.mg_of X G a4, F4.binds fun _ _ _ _ _ _ us hl => match us, hl with | [_, _, _], _ => rfl, F4, sc_law_some, rfl, rfl, rfl, ok_law_some⟩
    | 5, e => cases e; exact ⟨_, _, _, _, _, _, _, _, _, PySem.W.mg_of X G a5, F5.binds fun _ _ _ _ _ _ us hl => match us, hl with | [_], _ => rfl, F5, sc_law_made, rfl, rfl, rfl, ok_law_made⟩
    | 6, e => cases e; exact ⟨_, _, _, _, _, _, _, _, _, PySem.W.mg_of X G a6, F6.binds fun _ _ _ _ _ _ us hl => match us, hl with | [_], _ => rfl, F6, sc_law_words, rfl, rfl, rfl, ok_law_words⟩
    | 7, e => cases e; exact ⟨_, _, _, _, _, _, _, _, _, PySem.W.mg_of X G a7, F7.binds fun _ _ _ _ _ _ us hl => match us, hl with | [_, _], _ => rfl, F7, sc_law_take, rfl, rfl, rfl, ok_law_take⟩
    | 8, e => cases e; exact ⟨_, _, _, _, _, _, _, _, _, PySem.W.mg_of X G a8, F8.binds fun _ _ _ _ _ _ us hl => match us, hl with | [_], _ => rfl, F8, sc_law_frozen, rfl, rfl, rfl, ok_law_frozen⟩
    | 9, e => cases e; exact ⟨_, _, _, _, _, _, _, _, _, PySem.W.mg_of X G a9, F9.binds fun _ _ _ _ _ _ us hl => match us, hl with | [_, _], _ => rfl, F9, sc_law_mixed, rfl, rfl, rfl, ok_law_mixed⟩
    | n + 10, e => cases e
  obtain ⟨file, tf, v1, v2⟩ := fileOk_ok xv
  have I : SupI PySem.Challenge.rw_onesidedalike_k42_whole_errors_that_keep.prog K fI D := sup_mk xl xc xa v1 v2 xe xk xp xb (by decide +kernel) (by decide +kernel) xt xn
  obtain ⟨q1, q2, q3⟩ := clses_ok (P := P) (T := T) X G I rfl rfl xz
  have hgl : ∀ g x, T.glN g = some x → ∃ i t, P.gls g = some i ∧ mg x = some (.int i t) := fun g x e => by
    match g, e with
    | n + 0, e => cases e
  have B := fun base => bc_all (prog := PySem.Challenge.rw_onesidedalike_k42_whole_errors_that_keep.prog) (wd := wd) (base := base) (w := 100) (bltB_ok X G xy) hgl rows q1 q2 q3 (40 - 1)
  exact ⟨_, _, fun s u => .of_eq rfl, fun base => fn_ok (f := 0) (B base) F0 sclaw rfl rfl rfl oklaw⟩
end Lk42
open PySem PySem.W PyProof.Rows  -- so
set_option maxHeartbeats 0 in
theorem PySem.Challenge.cw_onesidedalike_k42_whole_errors_that_keep_holds : PySem.Challenge.rw_onesidedalike_k42_whole_errors_that_keep.Holds := by
  w_on; o_law; k_head; (case hw => w_witness2)  -- so
  k_fill
  refine Ip.walk_G (l := PySem.Challenge.rw_onesidedalike_k42_whole_errors_that_keep) (n := 63) (x := "script") (P := Lk42.P) (w := 100) (nn := 40) (f := 0) rfl (by decide) rfl ⟨rfl, by decide, by decide⟩ (fun w h Y => PySem.W.kIn_of Y) ?F Lk42.ev
  case F =>
    intro w mg fa h KX G hmg
    refine' Lk42.all_mk KX G hmg ?a0 ?l0 ?c0 ?k0 ?a1 ?l1 ?c1 ?k1 ?a2 ?l2 ?c2 ?k2 ?a3 ?l3 ?c3 ?k3 ?a4 ?l4 ?c4 ?k4 ?a5 ?l5 ?c5 ?k5 ?a6 ?l6 ?c6 ?k6 ?a7 ?l7 ?c7 ?k7 ?a8 ?l8 ?c8 ?k8 ?a9 ?l9 ?c9 ?k9 ?xD ?xI ?xl ?xc ?xa ?xv ?xe ?xk ?xp ?xb ?xt ?xn ?xz ?xy
    (case a0 => k_is)
    (case l0 => k_is)
    (case c0 => k_is)
    (case k0 => k_is)
    (case a1 => k_is)
    (case l1 => k_is)
    (case c1 => k_is)
    (case k1 => k_is)
    (case a2 => k_is)
    (case l2 => k_is)
    (case c2 => k_is)
    (case k2 => k_is)
    (case a3 => k_is)
    (case l3 => k_is)
    (case c3 => k_is)
    (case k3 => k_is)
    (case a4 => k_is)
    (case l4 => k_is)
    (case c4 => k_is)
    (case k4 => k_is)
    (case a5 => k_is)
    (case l5 => k_is)
    (case c5 => k_is)
    (case k5 => k_is)
    (case a6 => k_is)
    (case l6 => k_is)
    (case c6 => k_is)
    (case k6 => k_is)
    (case a7 => k_is)
    (case l7 => k_is)
    (case c7 => k_is)
    (case k7 => k_is)
    (case a8 => k_is)
    (case l8 => k_is)
    (case c8 => k_is)
    (case k8 => k_is)
    (case a9 => k_is)
    (case l9 => k_is)
    (case c9 => k_is)
    (case k9 => k_is)
    (case xD => k_is)
    (case xI => k_is)
    (case xl => k_is)
    (case xc => k_is)
    (case xa => k_is)
    (case xv => kernel_rfl)
    (case xe => k_is)
    (case xk => k_is)
    (case xp => rfl)
    (case xb => (intro us hl; match us, hl with | [_, _], _ => rfl))
    (case xt => k_is)
    (case xn => k_is)
    (case xz => kernel_rfl)
    (case xy => kernel_rfl)

