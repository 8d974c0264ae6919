import PyProof.Rows.All
import Wide.All
import OpenK.AllK
import Wide.FinOn
import HandS.ForMost
import HandS.Wide
import HandS.TupAny
import HandS.IsInst
import HandS.Style
import HandS.Deep
import HandS.Conv
import HandS.More
import HandS.Star
import PySem.Challenge.RW_downsets_k01_whole_fractions_in_lowest_t
set_option Elab.async false
set_option linter.all false
set_option maxRecDepth 100000
set_option maxHeartbeats 4000000
/-! PvA: plain data, code, an evaluator of code over plain data (lists that a name owns are changed in place). -/
namespace PV
open PySem L2

/-- plain data -/
inductive D where
  | non | bl (b : Bool) | int (i : Int) | str (s : Str)
  | lst (l : List D) | tup (l : List D) | dct (ks : List Key) (vs : List D) | dcT (ks : List (List Key)) (vs : List D) | obj (c : Nat) (l : List D) | scr (l : List Int)
  deriving Inhabited
/-- what a name holds: nothing, a thing that is never changed any more, a thing that this name alone holds -/
inductive Sl where
  | un | fz (d : D) | ow (d : D)
/-- a value: never changed any more; new; what the name i holds -/
inductive RV where
  | fz (d : D) | ow (d : D) | bor (i : Nat)
abbrev Rho := List Sl
inductive R (α : Type) where
  | ok (a : α) (ρ : Rho)
  | fail
def R.bind {α β : Type} : R α → (α → Rho → R β) → R β
  | .ok a ρ, f => f a ρ
  | .fail, _ => .fail
@[simp] theorem R.bind_ok {α β : Type} (a : α) (ρ : Rho) (f : α → Rho → R β) : (R.ok a ρ).bind f = f a ρ := rfl
@[simp] theorem R.bind_fail {α β : Type} (f : α → Rho → R β) : (R.fail : R α).bind f = .fail := rfl
/-- a call's end: the value, what the parameters hold -/
inductive CRes where
  | ok (r : RV) (ps : List Sl)
  | fail
/-- a statement's end -/
inductive O where
  | next (ρ : Rho) | ret (r : RV) (ρ : Rho) | brk (ρ : Rho) | cont (ρ : Rho) | fail

mutual
def D.py : D → PyData
  | .non => .none
  | .bl b => .bool b
  | .int i => .int i
  | .str s => .str s
  | .lst l => .list (D.pys l)
  | .tup l => .tuple (D.pys l)
  | .dct _ _ => .none
  | .dcT _ _ => .none
  | .obj _ _ => .none
  | .scr _ => .none
def D.pys : List D → List PyData
  | [] => []
  | d :: l => d.py :: D.pys l
end
mutual
/-- nothing but None, bools, ints, texts, lists, tuples -/
def D.plain : D → Bool
  | .non | .bl _ | .int _ | .str _ => true
  | .lst l | .tup l => D.plains l
  | .dct _ _ | .dcT _ _ | .obj _ _ | .scr _ => false
def D.plains : List D → Bool
  | [] => true
  | d :: l => d.plain && D.plains l
end
/-- two plain things may be compared -/
def D.cmpOk (d : D) : Bool := d.plain && SeqAt.shaped d.py

/-- built-in functions of one argument -/
inductive Bi where
  | abs | int | len | all | list | tuple
  deriving DecidableEq
inductive Ty where
  | int | bool | str | tuple | list
  deriving DecidableEq

inductive C where
  | con (d : D) | slot (i : Nat)
  | bin (o : Operator) (a b : C) | neg (a : C)
  | notV (a : C) | andV (a b : C) | orV (a b : C)
  | cmp (o : CmpOp) (a b : C) | chain (o o' : CmpOp) (a b c : C) | isN (a : C) | isNotN (a : C)
  | ite (c a b : C)
  | tup (es : C) | lst (es : C)
  | call (f : Nat) (es : C) | call1 (f : Nat) (e : C) | callS (f : Nat) (es : C) | dict0 | lrng (it : C)
  | bi (b : Bi) (e : C) | bi2 (mx : Bool) (a b : C) | isi (t : Ty) (e : C)
  | sub (a b : C) | slc (a lo hi : C)
  | join (a b : C)
  | lc (elt tg it ifs : C) (vs : List Nat)
  | nil | cons (e es : C)
  | iVal (e : C) | iRng1 (e : C) | iRng2 (a b : C)
  | tName (i : Nat) | tTup (ts : C)
  | tNot (a : C) | tAnd (a b : C) | tOr (a b : C) | tVal (a : C)
  | sAsg (tg e : C) | sPar (i j : Nat) (a b : C) | sSub (o : Nat) (i e : C) | sAug (i : Nat) (o : Operator) (e : C)
  | sExpr (e : C) | sIf (c a b : C) | sFor (tg it body : C) | sWhile (c body : C) | sRet (e : C) | sRetN | sPass | sNever

/-- what is read of a value -/
def der (ρ : Rho) : RV → Option D
  | .fz d => some d
  | .ow d => some d
  | .bor i => match ρ[i]? with
    | some (.fz d) => some d
    | some (.ow d) => some d
    | _ => none
/-- never changed from now on -/
def toFz (ρ : Rho) : RV → R D
  | .fz d => .ok d ρ
  | .ow d => .ok d ρ
  | .bor i => match ρ[i]? with
    | some (.fz d) => .ok d ρ
    | some (.ow d) => .ok d (ρ.set i (.fz d))
    | _ => .fail

def seqD : D → Option (List D)
  | .lst l => some l
  | .tup l => some l
  | .str s => some (s.cps.toList.map fun c => .str ⟨#[c]⟩)
  | _ => none
def mulOk (i j : Int) : Bool := decide (i.natAbs < 2 ^ 64) || decide (j.natAbs < 2 ^ 64)
def divOk (j : Int) : Bool := decide (0 < j) && decide (j.natAbs.log2 < 9000)
def powOk (i j : Int) : Bool := decide (0 ≤ j) && decide ((Builtin.Int.intBits i : Int) * j ≤ 2 ^ 27)
def maxLen : Nat := 1000000
/-- a op b, by values -/
def binD : Operator → D → D → Option RV
  | .Add, .int i, .int j => some (.fz (.int (i + j)))
  | .Sub, .int i, .int j => some (.fz (.int (i - j)))
  | .Mult, .int i, .int j => if mulOk i j then some (.fz (.int (i * j))) else none
  | .FloorDiv, .int i, .int j => if divOk j then some (.fz (.int (i / j))) else none
  | .Mod, .int i, .int j => if 0 < j then some (.fz (.int (i % j))) else none
  | .Pow, .int i, .int j => if powOk i j then some (.fz (.int (i ^ j.toNat))) else none
  | .Add, .str x, .str y => if x.length + y.length ≤ maxLen then some (.fz (.str (x ++ y))) else none
  | .Add, .lst x, .lst y => if x.length + y.length ≤ maxLen then some (.ow (.lst (x ++ y))) else none
  | .Add, .tup x, .tup y => if x.length + y.length ≤ maxLen then some (.fz (.tup (x ++ y))) else none
  | .Mult, .lst x, .int k => if 0 ≤ k ∧ k ≤ maxLen ∧ x.length * k.toNat ≤ maxLen then some (.ow (.lst (List.flatten (List.replicate k.toNat x)))) else none
  | _, _, _ => none
def eqD (d e : D) : Option Bool := if d.cmpOk && e.cmpOk then some (PyData.eqv d.py e.py) else none
/-- x in s: one sign of a text; an item of a list -/
def inD (d : D) : D → Option Bool
  | .str z => match d with
    | .str s => (match s.cps.toList with
      | [c] => some (decide (c ∈ z.cps.toList))
      | _ => none)
    | _ => none
  | .lst l => if d.cmpOk && (D.lst l).cmpOk then some (l.any fun z => PyData.eqv z.py d.py) else none
  | _ => none
def D.isNon : D → Bool
  | .non => true
  | _ => false
def isD : D → D → Option Bool
  | .bl a, .bl b => some (decide (a = b))
  | _, _ => none
def cmpD : CmpOp → D → D → Option Bool
  | .Eq, d, e => eqD d e
  | .NotEq, d, e => (eqD d e).map (!·)
  | .Lt, .int i, .int j => some (decide (i < j))
  | .LtE, .int i, .int j => some (decide (i ≤ j))
  | .Gt, .int i, .int j => some (decide (j < i))
  | .GtE, .int i, .int j => some (decide (j ≤ i))
  | .In, d, e => inD d e
  | .NotIn, d, e => (inD d e).map (!·)
  | .Is, d, e => isD d e
  | .IsNot, d, e => (isD d e).map (!·)
  | _, _, _ => none
def allB : List D → Option Bool
  | [] => some true
  | .bl b :: l => (allB l).map (b && ·)
  | _ :: _ => none
def biD : Bi → D → Option RV
  | .abs, .int i => some (.fz (.int (if i < 0 then -i else i)))
  | .int, .int i => some (.fz (.int i))
  | .int, .bl b => some (.fz (.int (if b then 1 else 0)))
  | .len, .lst l => some (.fz (.int l.length))
  | .len, .tup l => some (.fz (.int l.length))
  | .len, .scr l => some (.fz (.int l.length))
  | .len, .str s => if s.length ≤ maxLen then some (.fz (.int s.length)) else none
  | .all, .lst l => (allB l).map fun b => .fz (.bl b)
  | .list, .lst l => some (.ow (.lst l))
  | .list, .tup l => some (.ow (.lst l))
  | .list, .str s => if s.length ≤ maxLen then some (.ow (.lst (s.cps.toList.map fun c => .str ⟨#[c]⟩))) else none
  | .tuple, .lst l => some (.fz (.tup l))
  | .tuple, .tup l => some (.fz (.tup l))
  | _, _ => none
def isiD : Ty → D → Option Bool
  | _, .obj _ _ => none
  | _, .scr _ => none
  | .int, .int _ => some true
  | .int, .bl _ => some true
  | .bool, .bl _ => some true
  | .str, .str _ => some true
  | .tuple, .tup _ => some true
  | .list, .lst _ => some true
  | _, _ => some false
/-- the place of an index -/
def ixD (n : Nat) (i : Int) : Option Nat :=
  if 0 ≤ i then (if i < n then some i.toNat else none) else (if -(n : Int) ≤ i then some (i + n).toNat else none)
def subD : D → D → Option D
  | .lst l, .int i => (ixD l.length i).bind fun k => l[k]?
  | .tup l, .int i => (ixD l.length i).bind fun k => l[k]?
  | .scr l, .int i => (ixD l.length i).bind fun k => (l[k]?).map .int
  | _, _ => none
def bndD (n : Nat) (dflt : Nat) : Option D → Option Nat
  | none => some dflt
  | some (.int i) => some (if i < 0 then (i + (n : Int)).toNat else min i.toNat n)
  | _ => none
def cutD (l : List D) (lo hi : Nat) : List D := (l.drop lo).take (hi - lo)
def slcD (d : D) (lo hi : Option D) : Option RV :=
  match d with
  | .lst l => (bndD l.length 0 lo).bind fun a => (bndD l.length l.length hi).bind fun b => some (.ow (.lst (cutD l a b)))
  | .tup l => (bndD l.length 0 lo).bind fun a => (bndD l.length l.length hi).bind fun b => some (.fz (.tup (cutD l a b)))
  | _ => none
def strsD : List D → Option (List Str)
  | [] => some []
  | .str s :: l => (strsD l).map (s :: ·)
  | _ :: _ => none
def joinD (s : Str) (b : D) : Option D :=
  match b with
  | .lst l => (strsD l).bind fun ys => if (ys.map Str.length).sum + ys.length * s.length ≤ maxLen then some (.str (Txt.join s ys)) else none
  | _ => none

def rngD (i : Int) (n : Nat) : List D := (List.range n).map fun (k : Nat) => .int (i + (k : Int))
/-- is the slot free to be written -/
def setSl (np i : Nat) (s : Sl) (ρ : Rho) : Option Rho := if np ≤ i ∧ i < ρ.length then some (ρ.set i s) else none
mutual
def bindT (np : Nat) : C → D → Rho → Option Rho
  | .tName i, d, ρ => setSl np i (.fz d) ρ
  | .tTup ts, d, ρ => match d with
    | .tup l => bindTs np ts l ρ
    | _ => none
  | _, _, _ => none
def bindTs (np : Nat) : C → List D → Rho → Option Rho
  | .nil, [], ρ => some ρ
  | .cons t ts, d :: l, ρ => (bindT np t d ρ).bind fun ρ => bindTs np ts l ρ
  | _, _, _ => none
end
def wipeS (ρ : Rho) : List Nat → Rho
  | [] => ρ
  | v :: vs => (wipeS ρ vs).set v .un
/-- the names of a comprehension come back -/
def backS (ρ0 ρ : Rho) : List Nat → Rho
  | [] => ρ
  | v :: vs => match ρ0[v]? with
    | some s => (backS ρ0 ρ vs).set v s
    | none => backS ρ0 ρ vs
def isOw : Option Sl → Bool
  | some (.ow _) => true
  | _ => false
def lcL (bd : D → Rho → Option Rho) (tt : Rho → R Bool) (ee : Rho → R RV) (vs : List Nat) : List D → List D → Rho → R (List D)
  | [], acc, ρ => .ok acc ρ
  | d :: ds, acc, ρ => match bd d ρ with
    | none => .fail
    | some ρ1 => (tt ρ1).bind fun b ρ2 => if b then (ee ρ2).bind fun r ρ3 => (toFz ρ3 r).bind fun y ρ4 => if acc.length < maxLen then lcL bd tt ee vs ds (acc ++ [y]) (wipeS ρ4 vs) else .fail
      else lcL bd tt ee vs ds acc (wipeS ρ2 vs)
def forL (bd : D → Rho → Option Rho) (body : Rho → O) : List D → Rho → O
  | [], ρ => .next ρ
  | d :: ds, ρ => match bd d ρ with
    | none => .fail
    | some ρ1 => match body ρ1 with
      | .next ρ2 => forL bd body ds ρ2
      | .cont ρ2 => forL bd body ds ρ2
      | .brk ρ2 => .next ρ2
      | .ret r ρ2 => .ret r ρ2
      | .fail => .fail
def whlL (tt : Rho → R Bool) (body : Rho → O) : Nat → Rho → O
  | 0, _ => .fail
  | n + 1, ρ => match tt ρ with
    | .fail => .fail
    | .ok false ρ1 => .next ρ1
    | .ok true ρ1 => match body ρ1 with
      | .next ρ2 => whlL tt body n ρ2
      | .cont ρ2 => whlL tt body n ρ2
      | .brk ρ2 => .next ρ2
      | .ret r ρ2 => .ret r ρ2
      | .fail => .fail
def whlMax : Nat := 1000000000000000000000000000000
/-- an argument: what the name i holds, or a value -/
inductive Ar where
  | slot (i : Nat) | val (d : D)
def arSl (ρ : Rho) : List Ar → Option (List Sl)
  | [] => some []
  | .val d :: l => (arSl ρ l).map (.fz d :: ·)
  | .slot i :: l => match ρ[i]? with
    | some (.fz d) => (arSl ρ l).map (.fz d :: ·)
    | some (.ow d) => (arSl ρ l).map (.ow d :: ·)
    | _ => none
/-- no owned name is handed on twice -/
def arNd (ρ : Rho) : List Ar → Bool
  | [] => true
  | .val _ :: l => arNd ρ l
  | .slot i :: l => (!isOw ρ[i]? || l.all fun | .slot j => j != i | .val _ => true) && arNd ρ l
/-- behind a call -/
def arBack : List Ar → List Sl → Rho → Option Rho
  | [], [], ρ => some ρ
  | .val _ :: l, _ :: ps, ρ => arBack l ps ρ
  | .slot i :: l, p :: ps, ρ => match ρ[i]? with
    | some (.ow _) => (match p with
      | .un => none
      | p => arBack l ps (ρ.set i p))
    | _ => arBack l ps ρ
  | _, _, _ => none
def callR (r : CRes) (as : List Ar) (ρ : Rho) : R RV :=
  match r with
  | .fail => .fail
  | .ok r ps => match arBack as ps ρ with
    | none => .fail
    | some ρ' => match r with
      | .bor _ => .fail
      | r => .ok r ρ'
/-- an end of a slice -/
def optR (c : C) (r : R RV) (ρ : Rho) : R (Option D) :=
  match c with
  | .nil => .ok none ρ
  | _ => r.bind fun x ρ => match x with
    | .fz (.int i) => .ok (some (.int i)) ρ
    | _ => .fail
def ofO {α : Type} (o : Option α) (ρ : Rho) : R α :=
  match o with
  | some a => .ok a ρ
  | none => .fail
@[simp] theorem ofO_some {α : Type} (a : α) (ρ : Rho) : ofO (some a) ρ = .ok a ρ := rfl
@[simp] theorem ofO_none {α : Type} (ρ : Rho) : ofO (none : Option α) ρ = .fail := rfl
def ob2 {α : Type} (a b : Option D) (f : D → D → Option α) : Option α := a.bind fun x => b.bind fun y => f x y

section
variable (np : Nat) (cf : Nat → List Sl → CRes)
mutual
def evE : C → Rho → R RV
  | .con d, ρ => .ok (.fz d) ρ
  | .slot i, ρ => match ρ[i]? with
    | some (.fz d) => .ok (.fz d) ρ
    | some (.ow _) => .ok (.bor i) ρ
    | _ => .fail
  | .bin o a b, ρ => (evE a ρ).bind fun x ρ => (evE b ρ).bind fun y ρ => ofO (ob2 (der ρ x) (der ρ y) (binD o)) ρ
  | .neg a, ρ => (evE a ρ).bind fun x ρ => match der ρ x with
    | some (.int i) => .ok (.fz (.int (-i))) ρ
    | _ => .fail
  | .notV a, ρ => (evE a ρ).bind fun x ρ => match x with
    | .fz (.bl b) => .ok (.fz (.bl (!b))) ρ
    | _ => .fail
  | .andV a b, ρ => (evE a ρ).bind fun x ρ => match x with
    | .fz (.bl true) => evE b ρ
    | .fz (.bl false) => .ok (.fz (.bl false)) ρ
    | _ => .fail
  | .orV a b, ρ => (evE a ρ).bind fun x ρ => match x with
    | .fz (.bl false) => evE b ρ
    | .fz (.bl true) => .ok (.fz (.bl true)) ρ
    | _ => .fail
  | .cmp o a b, ρ => (evE a ρ).bind fun x ρ => (evE b ρ).bind fun y ρ => (ofO (ob2 (der ρ x) (der ρ y) (cmpD o)) ρ).bind fun b ρ => .ok (.fz (.bl b)) ρ
  | .isN a, ρ => (evE a ρ).bind fun x ρ => (ofO (der ρ x) ρ).bind fun d ρ => .ok (.fz (.bl d.isNon)) ρ
  | .isNotN a, ρ => (evE a ρ).bind fun x ρ => (ofO (der ρ x) ρ).bind fun d ρ => .ok (.fz (.bl (!d.isNon))) ρ
  | .chain o o' a b c, ρ => (evE a ρ).bind fun x ρ => (evE b ρ).bind fun y ρ => (ofO (ob2 (der ρ x) (der ρ y) (cmpD o)) ρ).bind fun k ρ =>
      if k then (evE c ρ).bind fun z ρ => (ofO (ob2 (der ρ y) (der ρ z) (cmpD o')) ρ).bind fun k ρ => .ok (.fz (.bl k)) ρ else .ok (.fz (.bl false)) ρ
  | .ite c a b, ρ => (evT c ρ).bind fun k ρ => if k then evE a ρ else evE b ρ
  | .tup es, ρ => (evEs es ρ).bind fun l ρ => if l.length ≤ maxLen then .ok (.fz (.tup l)) ρ else .fail
  | .lst es, ρ => (evEs es ρ).bind fun l ρ => if l.length ≤ maxLen then .ok (.ow (.lst l)) ρ else .fail
  | .call f es, ρ => (evAs es ρ).bind fun as ρ => if arNd ρ as then (match arSl ρ as with
    | none => .fail
    | some ps => callR (cf f ps) as ρ) else .fail
  | .call1 f e, ρ => (evE e ρ).bind fun x ρ => match x with
    | .ow d => (match cf f [.ow d] with
      | .ok (.fz d) _ => .ok (.fz d) ρ
      | .ok (.ow d) _ => .ok (.ow d) ρ
      | _ => .fail)
    | .fz d => (match cf f [.fz d] with
      | .ok (.fz d) _ => .ok (.fz d) ρ
      | .ok (.ow d) _ => .ok (.ow d) ρ
      | _ => .fail)
    | .bor _ => .fail
  | .callS f es, ρ => (evEs es ρ).bind fun l ρ => if l.length ≤ maxLen then (match cf f [.fz (.tup l)] with
      | .ok (.fz d) _ => .ok (.fz d) ρ
      | .ok (.ow d) _ => .ok (.ow d) ρ
      | _ => .fail) else .fail
  | .dict0, ρ => .ok (.ow (.dct [] [])) ρ
  | .lrng it, ρ => (evI it ρ).bind fun ds ρ => if ds.length ≤ maxLen then .ok (.ow (.lst ds)) ρ else .fail
  | .bi b e, ρ => (evE e ρ).bind fun x ρ => ofO ((der ρ x).bind (biD b)) ρ
  | .bi2 mx a b, ρ => (evE a ρ).bind fun x ρ => (evE b ρ).bind fun y ρ => match x, y with
    | .fz (.int i), .fz (.int j) => .ok (.fz (.int (if mx then (if j > i then j else i) else (if j < i then j else i)))) ρ
    | _, _ => .fail
  | .isi t e, ρ => (evE e ρ).bind fun x ρ => (ofO ((der ρ x).bind (isiD t)) ρ).bind fun b ρ => .ok (.fz (.bl b)) ρ
  | .sub a b, ρ => (evE a ρ).bind fun x ρ => (evE b ρ).bind fun y ρ => (ofO (ob2 (der ρ x) (der ρ y) subD) ρ).bind fun d ρ => .ok (.fz d) ρ
  | .slc a lo hi, ρ => (evE a ρ).bind fun x ρ => (optR lo (evE lo ρ) ρ).bind fun l ρ => (optR hi (evE hi ρ) ρ).bind fun h ρ => ofO ((der ρ x).bind fun d => slcD d l h) ρ
  | .join a b, ρ => (evE a ρ).bind fun x ρ => match x with
    | .fz (.str s) => (evE b ρ).bind fun y ρ => (ofO ((der ρ y).bind (joinD s)) ρ).bind fun d ρ => .ok (.fz d) ρ
    | _ => .fail
  | .lc elt tg it ifs vs, ρ => (evI it ρ).bind fun ds ρ1 => if vs.any (fun v => isOw ρ1[v]? || decide (v < np)) then .fail else
      (lcL (bindT np tg) (evT ifs) (evE elt) vs ds [] (wipeS ρ1 vs)).bind fun acc ρ2 => .ok (.ow (.lst acc)) (backS ρ1 ρ2 vs)
  | _, _ => .fail
/-- items: each is never changed from then on -/
def evEs : C → Rho → R (List D)
  | .nil, ρ => .ok [] ρ
  | .cons e es, ρ => (evE e ρ).bind fun r ρ => (toFz ρ r).bind fun d ρ => (evEs es ρ).bind fun l ρ => .ok (d :: l) ρ
  | _, _ => .fail
/-- arguments -/
def evAs : C → Rho → R (List Ar)
  | .nil, ρ => .ok [] ρ
  | .cons e es, ρ => match e with
    | .slot i => (match ρ[i]? with
      | some (.fz _) | some (.ow _) => (evAs es ρ).bind fun l ρ => .ok (.slot i :: l) ρ
      | _ => .fail)
    | e => (evE e ρ).bind fun r ρ => (toFz ρ r).bind fun d ρ => (evAs es ρ).bind fun l ρ => .ok (.val d :: l) ρ
  | _, _ => .fail
/-- a test -/
def evT : C → Rho → R Bool
  | .nil, ρ => .ok true ρ
  | .tNot a, ρ => (evT a ρ).bind fun b ρ => .ok (!b) ρ
  | .tAnd a b, ρ => (evT a ρ).bind fun k ρ => if k then evT b ρ else .ok false ρ
  | .tOr a b, ρ => (evT a ρ).bind fun k ρ => if k then .ok true ρ else evT b ρ
  | .tVal e, ρ => (evE e ρ).bind fun x ρ => match x with
    | .fz (.bl b) => .ok b ρ
    | _ => .fail
  | _, _ => .fail
/-- what is walked -/
def evI : C → Rho → R (List D)
  | .iVal e, ρ => (evE e ρ).bind fun r ρ => (toFz ρ r).bind fun d ρ => ofO (seqD d) ρ
  | .iRng1 e, ρ => (evE e ρ).bind fun x ρ => match x with
    | .fz (.int j) => if -(2 ^ 62) ≤ j ∧ j < 2 ^ 62 then .ok (rngD 0 j.toNat) ρ else .fail
    | _ => .fail
  | .iRng2 a b, ρ => (evE a ρ).bind fun x ρ => (evE b ρ).bind fun y ρ => match x, y with
    | .fz (.int i), .fz (.int j) => if -(2 ^ 62) ≤ i ∧ i < 2 ^ 62 ∧ -(2 ^ 62) ≤ j ∧ j < 2 ^ 62 then .ok (rngD i (j - i).toNat) ρ else .fail
    | _, _ => .fail
  | _, _ => .fail
end
/-- what a name will hold -/
def settle (ρ : Rho) (r : RV) : R Sl :=
  match r with
  | .ow d => .ok (.ow d) ρ
  | r => (toFz ρ r).bind fun d ρ => .ok (.fz d) ρ
/-- a name is given a value -/
def asgN (i : Nat) (r : RV) (ρ : Rho) : O :=
  match settle ρ r with
  | .ok s ρ => (match setSl np i s ρ with | some ρ => .next ρ | none => .fail)
  | .fail => .fail
def retR (r : RV) (ρ : Rho) : O :=
  match r with
  | .ow d => .ret (.ow d) ρ
  | .fz d => .ret (.fz d) ρ
  | .bor i => match ρ[i]? with
    | some (.fz d) => .ret (.fz d) ρ
    | some (.ow d) => if np ≤ i then .ret (.ow d) (ρ.set i .un) else .ret (.fz d) (ρ.set i (.fz d))
    | _ => .fail
mutual
def evS : C → Rho → O
  | .sPass, ρ => .next ρ
  | .sExpr e, ρ => match evE np cf e ρ with
    | .ok _ ρ => .next ρ
    | .fail => .fail
  | .sAsg tg e, ρ => match evE np cf e ρ with
    | .ok r ρ => (match tg with
      | .tName i => asgN np i r ρ
      | tg => match toFz ρ r with
        | .ok d ρ => (match bindT np tg d ρ with | some ρ => .next ρ | none => .fail)
        | .fail => .fail)
    | .fail => .fail
  | .sPar i j a b, ρ => match evE np cf a ρ with
    | .ok x ρ => (match evE np cf b ρ with
      | .ok y ρ => (match settle ρ x with
        | .ok sx ρ => (match settle ρ y with
          | .ok sy ρ => (match (setSl np i sx ρ).bind (setSl np j sy) with | some ρ => .next ρ | none => .fail)
          | .fail => .fail)
        | .fail => .fail)
      | .fail => .fail)
    | .fail => .fail
  | .sSub o i e, ρ => match evE np cf e ρ with
    | .ok r ρ => (match toFz ρ r with
      | .ok d ρ => if isOw ρ[o]? then (match evE np cf i ρ with
        | .ok (.fz (.int k)) ρ => (match ρ[o]? with
          | some (.ow (.lst l)) => (match ixD l.length k with
            | some k => .next (ρ.set o (.ow (.lst (l.set k d))))
            | none => .fail)
          | _ => .fail)
        | _ => .fail) else .fail
      | .fail => .fail)
    | .fail => .fail
  | .sAug i o e, ρ => match ρ[i]? with
    | some (.fz x) => (match evE np cf e ρ with
      | .ok (.fz y) ρ => (match binD o x y with
        | some (.fz z) => (match setSl np i (.fz z) ρ with | some ρ => .next ρ | none => .fail)
        | _ => .fail)
      | _ => .fail)
    | _ => .fail
  | .sIf c a b, ρ => match evT np cf c ρ with
    | .ok k ρ => if k then evSs a ρ else evSs b ρ
    | .fail => .fail
  | .sFor tg it body, ρ => match evI np cf it ρ with
    | .ok ds ρ => forL (bindT np tg) (evSs body) ds ρ
    | .fail => .fail
  | .sWhile c body, ρ => whlL (evT np cf c) (evSs body) whlMax ρ
  | .sRet e, ρ => match evE np cf e ρ with
    | .ok r ρ => retR np r ρ
    | .fail => .fail
  | .sRetN, ρ => .ret (.fz .non) ρ
  | _, _ => .fail
def evSs : C → Rho → O
  | .nil, ρ => .next ρ
  | .cons s ss, ρ => match evS s ρ with
    | .next ρ => evSs ss ρ
    | o => o
  | _, _ => .fail
end
end
/-- a def: its parameters' number, its names' number, its body -/
structure Fn where
  np : Nat
  nn : Nat
  body : C
def endO (np : Nat) : O → CRes
  | .next ρ => .ok (.fz .non) (ρ.take np)
  | .ret r ρ => .ok r (ρ.take np)
  | _ => .fail
def runF (cf : Nat → List Sl → CRes) (f : Fn) (ps : List Sl) : CRes :=
  if ps.length = f.np then endO f.np (evSs f.np cf f.body (ps ++ List.replicate (f.nn - f.np) .un)) else .fail
/-- the program's defs, run to the depth n -/
def run (fs : List Fn) : Nat → Nat → List Sl → CRes
  | 0, _, _ => .fail
  | n + 1, i, ps => match fs[i]? with
    | some f => runF (run fs n) f ps
    | none => .fail
end PV

/-! PvE: the evaluator's equations, for simp: a step is taken only where the names' words are written out. -/
namespace PV
open PySem L2
def R.bindO {α : Type} (r : R α) (f : α → Rho → O) : O :=
  match r with
  | .ok a ρ => f a ρ
  | .fail => .fail
def O.bindN (o : O) (f : Rho → O) : O :=
  match o with
  | .next ρ => f ρ
  | o => o
section
variable {α β : Type} {a : α} {ρ : Rho} {f : α → Rho → O} {g : Rho → O} {r : RV}
@[simp] theorem bindO_ok : (R.ok a ρ).bindO f = f a ρ := rfl
@[simp] theorem bindO_fail : (R.fail : R α).bindO f = .fail := rfl
@[simp] theorem bindN_next : (O.next ρ).bindN g = g ρ := rfl
@[simp] theorem bindN_ret : (O.ret r ρ).bindN g = .ret r ρ := rfl
@[simp] theorem bindN_fail : (O.fail).bindN g = .fail := rfl
@[simp] theorem bindN_ite {c : Prop} [Decidable c] {x y : O} : (if c then x else y).bindN g = if c then x.bindN g else y.bindN g := by split <;> rfl
@[simp] theorem bind_ite {c : Prop} [Decidable c] {x y : R α} {h : α → Rho → R β} : (if c then x else y).bind h = if c then x.bind h else y.bind h := by split <;> rfl
@[simp] theorem bindO_ite {c : Prop} [Decidable c] {x y : R α} : (if c then x else y).bindO f = if c then x.bindO f else y.bindO f := by split <;> rfl
@[simp] theorem ofO_ite {c : Prop} [Decidable c] {x y : Option α} : ofO (if c then x else y) ρ = if c then ofO x ρ else ofO y ρ := by split <;> rfl
end
/-- a name is read -/
def slotR (i : Nat) (s : Option Sl) (ρ : Rho) : R RV :=
  match s with
  | some (.fz d) => .ok (.fz d) ρ
  | some (.ow _) => .ok (.bor i) ρ
  | _ => .fail
def slD : Option Sl → Option D
  | some (.fz d) => some d
  | some (.ow d) => some d
  | _ => none
def slFz (i : Nat) (s : Option Sl) (ρ : Rho) : R D :=
  match s with
  | some (.fz d) => .ok d ρ
  | some (.ow d) => .ok d (ρ.set i (.fz d))
  | _ => .fail
section
variable {i : Nat} {d d' : D} {ρ : Rho} {s : Sl}
@[simp] theorem slotR_fz : slotR i (some (.fz d)) ρ = .ok (.fz d) ρ := rfl
@[simp] theorem slotR_ow : slotR i (some (.ow d)) ρ = .ok (.bor i) ρ := rfl
@[simp] theorem slD_fz : slD (some (.fz d)) = some d := rfl
@[simp] theorem slD_ow : slD (some (.ow d)) = some d := rfl
@[simp] theorem slFz_fz : slFz i (some (.fz d)) ρ = .ok d ρ := rfl
@[simp] theorem slFz_ow : slFz i (some (.ow d)) ρ = .ok d (ρ.set i (.fz d)) := rfl
@[simp] theorem der_fz : der ρ (.fz d) = some d := rfl
@[simp] theorem der_ow : der ρ (.ow d) = some d := rfl
@[simp] theorem der_bor : der (s :: ρ) (.bor i) = slD (s :: ρ)[i]? := by
  unfold der slD
  rfl
@[simp] theorem toFz_fz : toFz ρ (.fz d) = .ok d ρ := rfl
@[simp] theorem toFz_ow : toFz ρ (.ow d) = .ok d ρ := rfl
@[simp] theorem toFz_bor : toFz (s :: ρ) (.bor i) = slFz i (s :: ρ)[i]? (s :: ρ) := rfl
@[simp] theorem ob2_some' {α : Type} {x y : D} {f : D → D → Option α} : ob2 (some x) (some y) f = f x y := rfl
end
section
variable {i j k : Int} {x y : Str} {l m : List D} {d e : D} {b c : Bool}
@[simp] theorem bin_add : binD .Add (.int i) (.int j) = some (.fz (.int (i + j))) := rfl
@[simp] theorem bin_sub : binD .Sub (.int i) (.int j) = some (.fz (.int (i - j))) := rfl
@[simp] theorem bin_mul : binD .Mult (.int i) (.int j) = if mulOk i j then some (.fz (.int (i * j))) else none := rfl
@[simp] theorem bin_div : binD .FloorDiv (.int i) (.int j) = if divOk j then some (.fz (.int (i / j))) else none := rfl
@[simp] theorem bin_mod : binD .Mod (.int i) (.int j) = if 0 < j then some (.fz (.int (i % j))) else none := rfl
@[simp] theorem bin_pow : binD .Pow (.int i) (.int j) = if powOk i j then some (.fz (.int (i ^ j.toNat))) else none := rfl
@[simp] theorem bin_adds : binD .Add (.str x) (.str y) = if x.length + y.length ≤ maxLen then some (.fz (.str (x ++ y))) else none := rfl
@[simp] theorem bin_addl : binD .Add (.lst l) (.lst m) = if l.length + m.length ≤ maxLen then some (.ow (.lst (l ++ m))) else none := rfl
@[simp] theorem bin_addt : binD .Add (.tup l) (.tup m) = if l.length + m.length ≤ maxLen then some (.fz (.tup (l ++ m))) else none := rfl
@[simp] theorem bin_rep : binD .Mult (.lst l) (.int k) = if 0 ≤ k ∧ k ≤ maxLen ∧ l.length * k.toNat ≤ maxLen then some (.ow (.lst (List.flatten (List.replicate k.toNat l)))) else none := rfl
@[simp] theorem cmp_eq : cmpD .Eq d e = eqD d e := rfl
@[simp] theorem cmp_ne : cmpD .NotEq d e = (eqD d e).map (!·) := rfl
@[simp] theorem cmp_lt : cmpD .Lt (.int i) (.int j) = some (decide (i < j)) := rfl
@[simp] theorem cmp_le : cmpD .LtE (.int i) (.int j) = some (decide (i ≤ j)) := rfl
@[simp] theorem cmp_gt : cmpD .Gt (.int i) (.int j) = some (decide (j < i)) := rfl
@[simp] theorem cmp_ge : cmpD .GtE (.int i) (.int j) = some (decide (j ≤ i)) := rfl
@[simp] theorem cmp_in : cmpD .In d e = inD d e := rfl
@[simp] theorem cmp_notin : cmpD .NotIn d e = (inD d e).map (!·) := rfl
@[simp] theorem cmp_is : cmpD .Is (.bl b) (.bl c) = some (decide (b = c)) := rfl
@[simp] theorem bi_abs : biD .abs (.int i) = some (.fz (.int (if i < 0 then -i else i))) := rfl
@[simp] theorem bi_int : biD .int (.int i) = some (.fz (.int i)) := rfl
@[simp] theorem bi_intb : biD .int (.bl b) = some (.fz (.int (if b then 1 else 0))) := rfl
@[simp] theorem bi_lenl : biD .len (.lst l) = some (.fz (.int l.length)) := rfl
@[simp] theorem bi_lent : biD .len (.tup l) = some (.fz (.int l.length)) := rfl
@[simp] theorem bi_lens : biD .len (.str x) = if x.length ≤ maxLen then some (.fz (.int x.length)) else none := rfl
@[simp] theorem bi_lenr {l : List Int} : biD .len (.scr l) = some (.fz (.int l.length)) := rfl
@[simp] theorem bi_all : biD .all (.lst l) = (allB l).map fun b => .fz (.bl b) := rfl
@[simp] theorem bi_listl : biD .list (.lst l) = some (.ow (.lst l)) := rfl
@[simp] theorem bi_listt : biD .list (.tup l) = some (.ow (.lst l)) := rfl
@[simp] theorem bi_lists : biD .list (.str x) = if x.length ≤ maxLen then some (.ow (.lst (x.cps.toList.map fun c => .str ⟨#[c]⟩))) else none := rfl
@[simp] theorem bi_tuplel : biD .tuple (.lst l) = some (.fz (.tup l)) := rfl
@[simp] theorem bi_tuplet : biD .tuple (.tup l) = some (.fz (.tup l)) := rfl
@[simp] theorem sub_l : subD (.lst l) (.int i) = (ixD l.length i).bind fun k => l[k]? := rfl
@[simp] theorem sub_t : subD (.tup l) (.int i) = (ixD l.length i).bind fun k => l[k]? := rfl
@[simp] theorem sub_r {l : List Int} : subD (.scr l) (.int i) = (ixD l.length i).bind fun k => (l[k]?).map .int := rfl
theorem ixD_nn {n : Nat} (h : 0 ≤ i) (h2 : i < n) : ixD n i = some i.toNat := by unfold ixD; rw [if_pos h, if_pos h2]
@[simp] theorem ixD_0 {n : Nat} : ixD (n + 1) 0 = some 0 := ixD_nn (by omega) (by omega)
@[simp] theorem ixD_1 {n : Nat} : ixD (n + 1 + 1) 1 = some 1 := ixD_nn (by omega) (by omega)
@[simp] theorem ixD_2 {n : Nat} : ixD (n + 1 + 1 + 1) 2 = some 2 := ixD_nn (by omega) (by omega)
@[simp] theorem bnd_none {n k : Nat} : bndD n k none = some k := rfl
@[simp] theorem bnd_some {n k : Nat} : bndD n k (some (.int i)) = some (if i < 0 then (i + (n : Int)).toNat else min i.toNat n) := rfl
@[simp] theorem slc_l {lo hi : Option D} : slcD (.lst l) lo hi = (bndD l.length 0 lo).bind fun a => (bndD l.length l.length hi).bind fun b => some (.ow (.lst (cutD l a b))) := rfl
@[simp] theorem slc_t {lo hi : Option D} : slcD (.tup l) lo hi = (bndD l.length 0 lo).bind fun a => (bndD l.length l.length hi).bind fun b => some (.fz (.tup (cutD l a b))) := rfl
@[simp] theorem join_l : joinD x (.lst l) = (strsD l).bind fun ys => if (ys.map Str.length).sum + ys.length * x.length ≤ maxLen then some (.str (Txt.join x ys)) else none := rfl
@[simp] theorem isNon_non : D.isNon .non = true := rfl
@[simp] theorem isNon_int : D.isNon (.int i) = false := rfl
@[simp] theorem isNon_str : D.isNon (.str x) = false := rfl
@[simp] theorem isNon_bl : D.isNon (.bl b) = false := rfl
@[simp] theorem isNon_lst : D.isNon (.lst l) = false := rfl
@[simp] theorem isNon_tup : D.isNon (.tup l) = false := rfl
@[simp] theorem seq_l : seqD (.lst l) = some l := rfl
@[simp] theorem seq_t : seqD (.tup l) = some l := rfl
@[simp] theorem seq_s : seqD (.str x) = some (x.cps.toList.map fun c => .str ⟨#[c]⟩) := rfl
@[simp] theorem allB_nil : allB [] = some true := rfl
@[simp] theorem allB_cons : allB (.bl b :: l) = (allB l).map (b && ·) := rfl
@[simp] theorem allB_bools : ∀ bs : List Bool, allB (bs.map D.bl) = some (bs.all id)
  | [] => rfl
  | b :: bs => by
    show (allB (bs.map D.bl)).map (b && ·) = _
    rw [allB_bools bs]
    rfl
@[simp] theorem strs_nil : strsD [] = some [] := rfl
@[simp] theorem strs_cons : strsD (.str x :: l) = (strsD l).map (x :: ·) := rfl
@[simp] theorem strs_map : ∀ ss : List Str, strsD (ss.map D.str) = some ss
  | [] => rfl
  | s :: ss => by
    show (strsD (ss.map D.str)).map (s :: ·) = _
    rw [strs_map ss]
    rfl
end
/-- a name is stored -/
@[simp] theorem setSl_cons {np i : Nat} {s x : Sl} {ρ : Rho} : setSl np i s (x :: ρ) = if np ≤ i ∧ i < (x :: ρ).length then some ((x :: ρ).set i s) else none := rfl
section
variable {np : Nat} {cf : Nat → List Sl → CRes} {s : Sl} {ρ : Rho} {a b c e es : C} {d : D} {i : Nat}
def optI (x : RV) (ρ : Rho) : R (Option D) :=
  match x with
  | .fz (.int i) => .ok (some (.int i)) ρ
  | _ => .fail
@[simp] theorem optI_int {i : Int} : optI (.fz (.int i)) ρ = .ok (some (.int i)) ρ := rfl
@[simp] theorem optR_nil {r : R RV} : optR .nil r ρ = .ok none ρ := rfl
@[simp] theorem optR_con {r : R RV} : optR (.con d) r ρ = r.bind optI := rfl
@[simp] theorem optR_slot {r : R RV} : optR (.slot i) r ρ = r.bind optI := rfl
@[simp] theorem optR_bin {r : R RV} {o : Operator} : optR (.bin o a b) r ρ = r.bind optI := rfl
@[simp] theorem optR_neg {r : R RV} : optR (.neg a) r ρ = r.bind optI := rfl
@[simp] theorem optR_call {r : R RV} : optR (.call i a) r ρ = r.bind optI := rfl
@[simp] theorem evE_con : evE np cf (.con d) (s :: ρ) = .ok (.fz d) (s :: ρ) := rfl
@[simp] theorem evE_slot : evE np cf (.slot i) (s :: ρ) = slotR i (s :: ρ)[i]? (s :: ρ) := by
  unfold evE slotR
  rfl
@[simp] theorem evE_bin {o : Operator} : evE np cf (.bin o a b) (s :: ρ) = (evE np cf a (s :: ρ)).bind fun x ρ => (evE np cf b ρ).bind fun y ρ => ofO (ob2 (der ρ x) (der ρ y) (binD o)) ρ := rfl
def negR (d : Option D) (ρ : Rho) : R RV :=
  match d with
  | some (.int i) => .ok (.fz (.int (-i))) ρ
  | _ => .fail
@[simp] theorem negR_int {i : Int} : negR (some (.int i)) ρ = .ok (.fz (.int (-i))) ρ := rfl
@[simp] theorem evE_neg : evE np cf (.neg a) (s :: ρ) = (evE np cf a (s :: ρ)).bind fun x ρ => negR (der ρ x) ρ := rfl
def notR (x : RV) (ρ : Rho) : R RV :=
  match x with
  | .fz (.bl b) => .ok (.fz (.bl (!b))) ρ
  | _ => .fail
@[simp] theorem notR_bl {k : Bool} : notR (.fz (.bl k)) ρ = .ok (.fz (.bl (!k))) ρ := rfl
@[simp] theorem evE_not : evE np cf (.notV a) (s :: ρ) = (evE np cf a (s :: ρ)).bind notR := rfl
def andR (f : Rho → R RV) (x : RV) (ρ : Rho) : R RV :=
  match x with
  | .fz (.bl true) => f ρ
  | .fz (.bl false) => .ok (.fz (.bl false)) ρ
  | _ => .fail
def orR (f : Rho → R RV) (x : RV) (ρ : Rho) : R RV :=
  match x with
  | .fz (.bl false) => f ρ
  | .fz (.bl true) => .ok (.fz (.bl true)) ρ
  | _ => .fail
@[simp] theorem andR_bl {f : Rho → R RV} {k : Bool} : andR f (.fz (.bl k)) ρ = if k then f ρ else .ok (.fz (.bl false)) ρ := by cases k <;> rfl
@[simp] theorem orR_bl {f : Rho → R RV} {k : Bool} : orR f (.fz (.bl k)) ρ = if k then .ok (.fz (.bl true)) ρ else f ρ := by cases k <;> rfl
@[simp] theorem evE_and : evE np cf (.andV a b) (s :: ρ) = (evE np cf a (s :: ρ)).bind (andR (evE np cf b)) := rfl
@[simp] theorem evE_or : evE np cf (.orV a b) (s :: ρ) = (evE np cf a (s :: ρ)).bind (orR (evE np cf b)) := rfl
def blR (b : Bool) (ρ : Rho) : R RV := .ok (.fz (.bl b)) ρ
@[simp] theorem blR_eq {k : Bool} : blR k ρ = .ok (.fz (.bl k)) ρ := rfl
@[simp] theorem evE_cmp {o : CmpOp} : evE np cf (.cmp o a b) (s :: ρ) = (evE np cf a (s :: ρ)).bind fun x ρ => (evE np cf b ρ).bind fun y ρ => (ofO (ob2 (der ρ x) (der ρ y) (cmpD o)) ρ).bind blR := rfl
@[simp] theorem evE_isN : evE np cf (.isN a) (s :: ρ) = (evE np cf a (s :: ρ)).bind fun x ρ => (ofO (der ρ x) ρ).bind fun d ρ => .ok (.fz (.bl d.isNon)) ρ := rfl
@[simp] theorem evE_isNotN : evE np cf (.isNotN a) (s :: ρ) = (evE np cf a (s :: ρ)).bind fun x ρ => (ofO (der ρ x) ρ).bind fun d ρ => .ok (.fz (.bl (!d.isNon))) ρ := rfl
def chainR (cf' : Rho → R RV) (y : RV) (o' : CmpOp) (k : Bool) (ρ : Rho) : R RV :=
  if k then (cf' ρ).bind fun z ρ => (ofO (ob2 (der ρ y) (der ρ z) (cmpD o')) ρ).bind blR else .ok (.fz (.bl false)) ρ
@[simp] theorem chainR_eq {f : Rho → R RV} {y : RV} {o' : CmpOp} {k : Bool} : chainR f y o' k (s :: ρ) = if k then (f (s :: ρ)).bind fun z ρ => (ofO (ob2 (der ρ y) (der ρ z) (cmpD o')) ρ).bind blR else .ok (.fz (.bl false)) (s :: ρ) := rfl
@[simp] theorem evE_chain {o o' : CmpOp} : evE np cf (.chain o o' a b c) (s :: ρ) = (evE np cf a (s :: ρ)).bind fun x ρ => (evE np cf b ρ).bind fun y ρ => (ofO (ob2 (der ρ x) (der ρ y) (cmpD o)) ρ).bind (chainR (evE np cf c) y o') := rfl
@[simp] theorem evE_ite : evE np cf (.ite c a b) (s :: ρ) = (evT np cf c (s :: ρ)).bind fun k ρ => if k then evE np cf a ρ else evE np cf b ρ := rfl
def tupR (l : List D) (ρ : Rho) : R RV := if l.length ≤ maxLen then .ok (.fz (.tup l)) ρ else .fail
def lstR (l : List D) (ρ : Rho) : R RV := if l.length ≤ maxLen then .ok (.ow (.lst l)) ρ else .fail
@[simp] theorem evE_tup : evE np cf (.tup es) (s :: ρ) = (evEs np cf es (s :: ρ)).bind tupR := rfl
@[simp] theorem evE_lst : evE np cf (.lst es) (s :: ρ) = (evEs np cf es (s :: ρ)).bind lstR := rfl
theorem tupR_le {l : List D} (h : l.length ≤ maxLen) : tupR l ρ = .ok (.fz (.tup l)) ρ := by unfold tupR; rw [if_pos h]
theorem lstR_le {l : List D} (h : l.length ≤ maxLen) : lstR l ρ = .ok (.ow (.lst l)) ρ := by unfold lstR; rw [if_pos h]
def callA (cf : List Sl → CRes) (as : List Ar) (ρ : Rho) : R RV := if arNd ρ as then (match arSl ρ as with
    | none => .fail
    | some ps => callR (cf ps) as ρ) else .fail
@[simp] theorem evE_call {f : Nat} : evE np cf (.call f es) (s :: ρ) = (evAs np cf es (s :: ρ)).bind (callA (cf f)) := rfl
def call1R (f : List Sl → CRes) (x : RV) (ρ : Rho) : R RV :=
  match x with
    | .ow d => (match f [.ow d] with
      | .ok (.fz d) _ => .ok (.fz d) ρ
      | .ok (.ow d) _ => .ok (.ow d) ρ
      | _ => .fail)
    | .fz d => (match f [.fz d] with
      | .ok (.fz d) _ => .ok (.fz d) ρ
      | .ok (.ow d) _ => .ok (.ow d) ρ
      | _ => .fail)
    | .bor _ => .fail
def resR (r : CRes) (ρ : Rho) : R RV :=
  match r with
      | .ok (.fz d) _ => .ok (.fz d) ρ
      | .ok (.ow d) _ => .ok (.ow d) ρ
      | _ => .fail
@[simp] theorem resR_fz {ps : List Sl} : resR (.ok (.fz d) ps) ρ = .ok (.fz d) ρ := rfl
@[simp] theorem resR_ow {ps : List Sl} : resR (.ok (.ow d) ps) ρ = .ok (.ow d) ρ := rfl
@[simp] theorem call1R_fz {f : List Sl → CRes} : call1R f (.fz d) ρ = resR (f [.fz d]) ρ := rfl
@[simp] theorem call1R_ow {f : List Sl → CRes} : call1R f (.ow d) ρ = resR (f [.ow d]) ρ := rfl
@[simp] theorem evE_call1 {f : Nat} : evE np cf (.call1 f e) (s :: ρ) = (evE np cf e (s :: ρ)).bind (call1R (cf f)) := rfl
def callSR (f : List Sl → CRes) (l : List D) (ρ : Rho) : R RV := if l.length ≤ maxLen then resR (f [.fz (.tup l)]) ρ else .fail
@[simp] theorem evE_callS {f : Nat} : evE np cf (.callS f es) (s :: ρ) = (evEs np cf es (s :: ρ)).bind (callSR (cf f)) := rfl
theorem callSR_le {f : List Sl → CRes} {l : List D} (h : l.length ≤ maxLen) : callSR f l ρ = resR (f [.fz (.tup l)]) ρ := by unfold callSR; rw [if_pos h]
@[simp] theorem evE_dict0 : evE np cf .dict0 (s :: ρ) = .ok (.ow (.dct [] [])) (s :: ρ) := rfl
@[simp] theorem evE_lrng : evE np cf (.lrng a) (s :: ρ) = (evI np cf a (s :: ρ)).bind lstR := rfl
@[simp] theorem evE_bi {bi : Bi} : evE np cf (.bi bi e) (s :: ρ) = (evE np cf e (s :: ρ)).bind fun x ρ => ofO ((der ρ x).bind (biD bi)) ρ := rfl
def bi2R (mx : Bool) (x y : RV) (ρ : Rho) : R RV :=
  match x, y with
    | .fz (.int i), .fz (.int j) => .ok (.fz (.int (if mx then (if j > i then j else i) else (if j < i then j else i)))) ρ
    | _, _ => .fail
@[simp] theorem bi2R_int {mx : Bool} {i j : Int} : bi2R mx (.fz (.int i)) (.fz (.int j)) ρ = .ok (.fz (.int (if mx then (if j > i then j else i) else (if j < i then j else i)))) ρ := rfl
@[simp] theorem evE_bi2 {mx : Bool} : evE np cf (.bi2 mx a b) (s :: ρ) = (evE np cf a (s :: ρ)).bind fun x ρ => (evE np cf b ρ).bind fun y ρ => bi2R mx x y ρ := rfl
@[simp] theorem evE_isi {t : Ty} : evE np cf (.isi t e) (s :: ρ) = (evE np cf e (s :: ρ)).bind fun x ρ => (ofO ((der ρ x).bind (isiD t)) ρ).bind blR := rfl
def fzR (d : D) (ρ : Rho) : R RV := .ok (.fz d) ρ
@[simp] theorem fzR_eq : fzR d ρ = .ok (.fz d) ρ := rfl
@[simp] theorem evE_sub : evE np cf (.sub a b) (s :: ρ) = (evE np cf a (s :: ρ)).bind fun x ρ => (evE np cf b ρ).bind fun y ρ => (ofO (ob2 (der ρ x) (der ρ y) subD) ρ).bind fzR := rfl
@[simp] theorem evE_slc {lo hi : C} : evE np cf (.slc a lo hi) (s :: ρ) = (evE np cf a (s :: ρ)).bind fun x ρ => (optR lo (evE np cf lo ρ) ρ).bind fun l ρ => (optR hi (evE np cf hi ρ) ρ).bind fun h ρ => ofO ((der ρ x).bind fun d => slcD d l h) ρ := rfl
def joinR (f : Rho → R RV) (x : RV) (ρ : Rho) : R RV :=
  match x with
    | .fz (.str s) => (f ρ).bind fun y ρ => (ofO ((der ρ y).bind (joinD s)) ρ).bind fzR
    | _ => .fail
@[simp] theorem joinR_str {f : Rho → R RV} {x : Str} : joinR f (.fz (.str x)) (s :: ρ) = (f (s :: ρ)).bind fun y ρ => (ofO ((der ρ y).bind (joinD x)) ρ).bind fzR := rfl
@[simp] theorem evE_join : evE np cf (.join a b) (s :: ρ) = (evE np cf a (s :: ρ)).bind (joinR (evE np cf b)) := rfl
/-- a comprehension, behind its source -/
def lcS (np : Nat) (cf : Nat → List Sl → CRes) (elt tg ifs : C) (vs : List Nat) (ds : List D) (ρ1 : Rho) : R RV :=
  if vs.any (fun v => isOw ρ1[v]? || decide (v < np)) then .fail else
      (lcL (bindT np tg) (evT np cf ifs) (evE np cf elt) vs ds [] (wipeS ρ1 vs)).bind fun acc ρ2 => .ok (.ow (.lst acc)) (backS ρ1 ρ2 vs)
@[simp] theorem evE_lc {elt tg it ifs : C} {vs : List Nat} : evE np cf (.lc elt tg it ifs vs) (s :: ρ) = (evI np cf it (s :: ρ)).bind (lcS np cf elt tg ifs vs) := rfl
def consR (d : D) (l : List D) (ρ : Rho) : R (List D) := .ok (d :: l) ρ
@[simp] theorem consR_eq {l : List D} : consR d l ρ = .ok (d :: l) ρ := rfl
@[simp] theorem evEs_nil : evEs np cf .nil (s :: ρ) = .ok [] (s :: ρ) := rfl
@[simp] theorem evEs_cons : evEs np cf (.cons e es) (s :: ρ) = (evE np cf e (s :: ρ)).bind fun r ρ => (toFz ρ r).bind fun d ρ => (evEs np cf es ρ).bind (consR d) := rfl
def consA (a : Ar) (l : List Ar) (ρ : Rho) : R (List Ar) := .ok (a :: l) ρ
@[simp] theorem consA_eq {a : Ar} {l : List Ar} : consA a l ρ = .ok (a :: l) ρ := rfl
def slotA (s : Option Sl) (r : R (List Ar)) : R (List Ar) :=
  match s with
  | some (.fz _) => r
  | some (.ow _) => r
  | _ => .fail
@[simp] theorem slotA_fz {r : R (List Ar)} : slotA (some (.fz d)) r = r := rfl
@[simp] theorem slotA_ow {r : R (List Ar)} : slotA (some (.ow d)) r = r := rfl
@[simp] theorem evAs_nil : evAs np cf .nil (s :: ρ) = .ok [] (s :: ρ) := rfl
@[simp] theorem evAs_slot : evAs np cf (.cons (.slot i) es) (s :: ρ) = slotA (s :: ρ)[i]? ((evAs np cf es (s :: ρ)).bind (consA (.slot i))) := by
  show (match (s :: ρ)[i]? with | some (.fz _) | some (.ow _) => (evAs np cf es (s :: ρ)).bind fun l ρ => R.ok (Ar.slot i :: l) ρ | _ => .fail) = _
  unfold slotA consA
  cases (s :: ρ)[i]? with
  | none => rfl
  | some x => cases x <;> rfl
theorem evAs_val (h : ∀ i, e ≠ .slot i) : evAs np cf (.cons e es) (s :: ρ) = (evE np cf e (s :: ρ)).bind fun r ρ => (toFz ρ r).bind fun d ρ => (evAs np cf es ρ).bind (consA (.val d)) := by
  cases e <;> first | exact absurd rfl (h _) | rfl
@[simp] theorem evAs_con : evAs np cf (.cons (.con d) es) (s :: ρ) = (evAs np cf es (s :: ρ)).bind (consA (.val d)) := rfl
@[simp] theorem evAs_bin {o : Operator} : evAs np cf (.cons (.bin o a b) es) (s :: ρ) = (evE np cf (.bin o a b) (s :: ρ)).bind fun r ρ => (toFz ρ r).bind fun d ρ => (evAs np cf es ρ).bind (consA (.val d)) := rfl
@[simp] theorem evAs_bi {o : Bi} : evAs np cf (.cons (.bi o a) es) (s :: ρ) = (evE np cf (.bi o a) (s :: ρ)).bind fun r ρ => (toFz ρ r).bind fun d ρ => (evAs np cf es ρ).bind (consA (.val d)) := rfl
@[simp] theorem evAs_bi2 {o : Bool} : evAs np cf (.cons (.bi2 o a b) es) (s :: ρ) = (evE np cf (.bi2 o a b) (s :: ρ)).bind fun r ρ => (toFz ρ r).bind fun d ρ => (evAs np cf es ρ).bind (consA (.val d)) := rfl
@[simp] theorem evAs_sub : evAs np cf (.cons (.sub a b) es) (s :: ρ) = (evE np cf (.sub a b) (s :: ρ)).bind fun r ρ => (toFz ρ r).bind fun d ρ => (evAs np cf es ρ).bind (consA (.val d)) := rfl
@[simp] theorem evAs_slc : evAs np cf (.cons (.slc a b c) es) (s :: ρ) = (evE np cf (.slc a b c) (s :: ρ)).bind fun r ρ => (toFz ρ r).bind fun d ρ => (evAs np cf es ρ).bind (consA (.val d)) := rfl
@[simp] theorem evAs_tup : evAs np cf (.cons (.tup a) es) (s :: ρ) = (evE np cf (.tup a) (s :: ρ)).bind fun r ρ => (toFz ρ r).bind fun d ρ => (evAs np cf es ρ).bind (consA (.val d)) := rfl
@[simp] theorem evAs_lst : evAs np cf (.cons (.lst a) es) (s :: ρ) = (evE np cf (.lst a) (s :: ρ)).bind fun r ρ => (toFz ρ r).bind fun d ρ => (evAs np cf es ρ).bind (consA (.val d)) := rfl
@[simp] theorem evAs_call {f : Nat} : evAs np cf (.cons (.call f a) es) (s :: ρ) = (evE np cf (.call f a) (s :: ρ)).bind fun r ρ => (toFz ρ r).bind fun d ρ => (evAs np cf es ρ).bind (consA (.val d)) := rfl
@[simp] theorem evAs_call1 {f : Nat} : evAs np cf (.cons (.call1 f a) es) (s :: ρ) = (evE np cf (.call1 f a) (s :: ρ)).bind fun r ρ => (toFz ρ r).bind fun d ρ => (evAs np cf es ρ).bind (consA (.val d)) := rfl
@[simp] theorem evAs_lc {el tg it f : C} {vs : List Nat} : evAs np cf (.cons (.lc el tg it f vs) es) (s :: ρ) = (evE np cf (.lc el tg it f vs) (s :: ρ)).bind fun r ρ => (toFz ρ r).bind fun d ρ => (evAs np cf es ρ).bind (consA (.val d)) := rfl
@[simp] theorem evT_nil : evT np cf .nil (s :: ρ) = .ok true (s :: ρ) := rfl
@[simp] theorem evT_not : evT np cf (.tNot a) (s :: ρ) = (evT np cf a (s :: ρ)).bind fun b ρ => .ok (!b) ρ := rfl
def tAndR (f : Rho → R Bool) (k : Bool) (ρ : Rho) : R Bool := if k then f ρ else .ok false ρ
def tOrR (f : Rho → R Bool) (k : Bool) (ρ : Rho) : R Bool := if k then .ok true ρ else f ρ
@[simp] theorem tAndR_eq {f : Rho → R Bool} {k : Bool} : tAndR f k ρ = if k then f ρ else .ok false ρ := rfl
@[simp] theorem tOrR_eq {f : Rho → R Bool} {k : Bool} : tOrR f k ρ = if k then .ok true ρ else f ρ := rfl
@[simp] theorem evT_and : evT np cf (.tAnd a b) (s :: ρ) = (evT np cf a (s :: ρ)).bind (tAndR (evT np cf b)) := rfl
@[simp] theorem evT_or : evT np cf (.tOr a b) (s :: ρ) = (evT np cf a (s :: ρ)).bind (tOrR (evT np cf b)) := rfl
def tvR (x : RV) (ρ : Rho) : R Bool :=
  match x with
    | .fz (.bl b) => .ok b ρ
    | _ => .fail
@[simp] theorem tvR_bl {k : Bool} : tvR (.fz (.bl k)) ρ = .ok k ρ := rfl
@[simp] theorem evT_val : evT np cf (.tVal e) (s :: ρ) = (evE np cf e (s :: ρ)).bind tvR := rfl
@[simp] theorem evI_val : evI np cf (.iVal e) (s :: ρ) = (evE np cf e (s :: ρ)).bind fun r ρ => (toFz ρ r).bind fun d ρ => ofO (seqD d) ρ := rfl
def rng1R (x : RV) (ρ : Rho) : R (List D) :=
  match x with
    | .fz (.int j) => if -(2 ^ 62) ≤ j ∧ j < 2 ^ 62 then .ok (rngD 0 j.toNat) ρ else .fail
    | _ => .fail
def rng2R (x y : RV) (ρ : Rho) : R (List D) :=
  match x, y with
    | .fz (.int i), .fz (.int j) => if -(2 ^ 62) ≤ i ∧ i < 2 ^ 62 ∧ -(2 ^ 62) ≤ j ∧ j < 2 ^ 62 then .ok (rngD i (j - i).toNat) ρ else .fail
    | _, _ => .fail
@[simp] theorem rng1R_int {j : Int} : rng1R (.fz (.int j)) ρ = if -(2 ^ 62) ≤ j ∧ j < 2 ^ 62 then .ok (rngD 0 j.toNat) ρ else .fail := rfl
@[simp] theorem rng2R_int {i j : Int} : rng2R (.fz (.int i)) (.fz (.int j)) ρ = if -(2 ^ 62) ≤ i ∧ i < 2 ^ 62 ∧ -(2 ^ 62) ≤ j ∧ j < 2 ^ 62 then .ok (rngD i (j - i).toNat) ρ else .fail := rfl
@[simp] theorem evI_rng1 : evI np cf (.iRng1 e) (s :: ρ) = (evE np cf e (s :: ρ)).bind rng1R := rfl
@[simp] theorem evI_rng2 : evI np cf (.iRng2 a b) (s :: ρ) = (evE np cf a (s :: ρ)).bind fun x ρ => (evE np cf b ρ).bind fun y ρ => rng2R x y ρ := rfl
@[simp] theorem settle_fz : settle ρ (.fz d) = .ok (.fz d) ρ := rfl
@[simp] theorem settle_ow : settle ρ (.ow d) = .ok (.ow d) ρ := rfl
@[simp] theorem settle_bor : settle (s :: ρ) (.bor i) = (slFz i (s :: ρ)[i]? (s :: ρ)).bind fun d ρ => .ok (.fz d) ρ := rfl
def optN (o : Option Rho) : O :=
  match o with
  | some ρ => .next ρ
  | none => .fail
@[simp] theorem optN_some : optN (some ρ) = .next ρ := rfl
@[simp] theorem optN_none : optN none = .fail := rfl
@[simp] theorem optN_ite {c : Prop} [Decidable c] {x y : Option Rho} : optN (if c then x else y) = if c then optN x else optN y := by split <;> rfl
def asgS (np i : Nat) (s : Sl) (ρ : Rho) : O := optN (setSl np i s ρ)
@[simp] theorem asgS_cons {x : Sl} : asgS np i x (s :: ρ) = optN (setSl np i x (s :: ρ)) := rfl
theorem asgN_eq {r : RV} : asgN np i r ρ = (settle ρ r).bindO (asgS np i) := by
  unfold asgN R.bindO asgS optN
  cases settle ρ r <;> rfl
@[simp] theorem asgN_cons {r : RV} : asgN np i r (s :: ρ) = (settle (s :: ρ) r).bindO (asgS np i) := asgN_eq
@[simp] theorem evS_pass : evS np cf .sPass (s :: ρ) = .next (s :: ρ) := rfl
theorem bindO_def {α : Type} {r : R α} {f : α → Rho → O} : r.bindO f = match r with | .ok a ρ => f a ρ | .fail => .fail := rfl
@[simp] theorem evS_expr : evS np cf (.sExpr e) (s :: ρ) = (evE np cf e (s :: ρ)).bindO fun _ ρ => .next ρ := by
  unfold evS
  cases evE np cf e (s :: ρ) <;> rfl
@[simp] theorem evS_asg : evS np cf (.sAsg (.tName i) e) (s :: ρ) = (evE np cf e (s :: ρ)).bindO (asgN np i) := by
  unfold evS
  cases evE np cf e (s :: ρ) <;> rfl
@[simp] theorem evS_asgT {ts : C} : evS np cf (.sAsg (.tTup ts) e) (s :: ρ) = (evE np cf e (s :: ρ)).bindO fun r ρ => (toFz ρ r).bindO fun d ρ => optN (bindT np (.tTup ts) d ρ) := by
  unfold evS
  cases evE np cf e (s :: ρ) with
  | fail => rfl
  | ok r ρ1 =>
    simp only [bindO_ok]
    cases toFz ρ1 r with
    | fail => rfl
    | ok d ρ2 => rfl
def parS (np i j : Nat) (x y : RV) (ρ : Rho) : O := (settle ρ x).bindO fun sx ρ => (settle ρ y).bindO fun sy ρ => optN ((setSl np i sx ρ).bind (setSl np j sy))
@[simp] theorem parS_cons {j : Nat} {x y : RV} : parS np i j x y (s :: ρ) = (settle (s :: ρ) x).bindO fun sx ρ => (settle ρ y).bindO fun sy ρ => optN ((setSl np i sx ρ).bind (setSl np j sy)) := rfl
@[simp] theorem evS_par {j : Nat} : evS np cf (.sPar i j a b) (s :: ρ) = (evE np cf a (s :: ρ)).bindO fun x ρ => (evE np cf b ρ).bindO fun y ρ => parS np i j x y ρ := by
  unfold evS
  cases evE np cf a (s :: ρ) with
  | fail => rfl
  | ok x ρ1 =>
    simp only [bindO_ok]
    cases evE np cf b ρ1 with
    | fail => rfl
    | ok y ρ2 =>
      simp only [bindO_ok]
      unfold parS
      cases settle ρ2 x with
      | fail => rfl
      | ok sx ρ3 =>
        simp only [bindO_ok]
        cases settle ρ3 y with
        | fail => rfl
        | ok sy ρ4 => rfl
def subS2 (o : Nat) (d : D) (x : RV) (ρ : Rho) : O :=
  match x with
  | .fz (.int k) => (match ρ[o]? with
          | some (.ow (.lst l)) => (match ixD l.length k with
            | some k => .next (ρ.set o (.ow (.lst (l.set k d))))
            | none => .fail)
          | _ => .fail)
  | _ => .fail
def subS3 (o : Nat) (d : D) (k : Int) (s : Option Sl) (ρ : Rho) : O :=
  match s with
          | some (.ow (.lst l)) => (match ixD l.length k with
            | some k => .next (ρ.set o (.ow (.lst (l.set k d))))
            | none => .fail)
          | _ => .fail
def subS4 (o : Nat) (d : D) (l : List D) (k : Option Nat) (ρ : Rho) : O :=
  match k with
            | some k => .next (ρ.set o (.ow (.lst (l.set k d))))
            | none => .fail
@[simp] theorem subS4_some {o k : Nat} {l : List D} : subS4 o d l (some k) ρ = .next (ρ.set o (.ow (.lst (l.set k d)))) := rfl
@[simp] theorem subS3_ow {o : Nat} {k : Int} {l : List D} : subS3 o d k (some (.ow (.lst l))) ρ = subS4 o d l (ixD l.length k) ρ := rfl
@[simp] theorem subS2_int {o : Nat} {k : Int} : subS2 o d (.fz (.int k)) (s :: ρ) = subS3 o d k (s :: ρ)[o]? (s :: ρ) := rfl
@[simp] theorem isOw_ow : isOw (some (.ow d)) = true := rfl
@[simp] theorem isOw_fz : isOw (some (.fz d)) = false := rfl
@[simp] theorem isOw_un : isOw (some .un) = false := rfl
@[simp] theorem evS_sub {o : Nat} : evS np cf (.sSub o b e) (s :: ρ) = (evE np cf e (s :: ρ)).bindO fun r ρ => (toFz ρ r).bindO fun d ρ => if isOw ρ[o]? then (evE np cf b ρ).bindO (subS2 o d) else .fail := by
  unfold evS
  cases evE np cf e (s :: ρ) with
  | fail => rfl
  | ok r ρ1 =>
    simp only [bindO_ok]
    cases toFz ρ1 r with
    | fail => rfl
    | ok d ρ2 =>
      simp only [bindO_ok]
      split
      · cases evE np cf b ρ2 with
        | fail => rfl
        | ok x ρ3 =>
          cases x with
          | fz d => cases d <;> rfl
          | ow _ => rfl
          | bor _ => rfl
      · rfl
@[simp] theorem evS_if {c1 c2 : C} : evS np cf (.sIf c c1 c2) (s :: ρ) = (evT np cf c (s :: ρ)).bindO fun k ρ => if k then evSs np cf c1 ρ else evSs np cf c2 ρ := by
  unfold evS
  cases evT np cf c (s :: ρ) <;> rfl
def forS (np : Nat) (cf : Nat → List Sl → CRes) (tg body : C) (ds : List D) (ρ : Rho) : O := forL (bindT np tg) (evSs np cf body) ds ρ
@[simp] theorem evS_for {tg it : C} : evS np cf (.sFor tg it b) (s :: ρ) = (evI np cf it (s :: ρ)).bindO (forS np cf tg b) := by
  unfold evS
  cases evI np cf it (s :: ρ) <;> rfl
def whileS (np : Nat) (cf : Nat → List Sl → CRes) (c body : C) (n : Nat) (ρ : Rho) : O := whlL (evT np cf c) (evSs np cf body) n ρ
@[simp] theorem evS_while : evS np cf (.sWhile c b) (s :: ρ) = whileS np cf c b whlMax (s :: ρ) := rfl
@[simp] theorem retR_fz : retR np (.fz d) ρ = .ret (.fz d) ρ := rfl
@[simp] theorem retR_ow : retR np (.ow d) ρ = .ret (.ow d) ρ := rfl
def retS (np i : Nat) (s : Option Sl) (ρ : Rho) : O :=
  match s with
    | some (.fz d) => .ret (.fz d) ρ
    | some (.ow d) => if np ≤ i then .ret (.ow d) (ρ.set i .un) else .ret (.fz d) (ρ.set i (.fz d))
    | _ => .fail
@[simp] theorem retS_fz : retS np i (some (.fz d)) ρ = .ret (.fz d) ρ := rfl
@[simp] theorem retS_ow : retS np i (some (.ow d)) ρ = if np ≤ i then .ret (.ow d) (ρ.set i .un) else .ret (.fz d) (ρ.set i (.fz d)) := rfl
@[simp] theorem retR_bor : retR np (.bor i) (s :: ρ) = retS np i (s :: ρ)[i]? (s :: ρ) := by
  unfold retR retS
  rfl
@[simp] theorem evS_ret : evS np cf (.sRet e) (s :: ρ) = (evE np cf e (s :: ρ)).bindO (retR np) := by
  unfold evS
  cases evE np cf e (s :: ρ) <;> rfl
@[simp] theorem evS_retN : evS np cf .sRetN (s :: ρ) = .ret (.fz .non) (s :: ρ) := rfl
@[simp] theorem evS_never : evS np cf .sNever (s :: ρ) = .fail := rfl
@[simp] theorem evSs_nil : evSs np cf .nil (s :: ρ) = .next (s :: ρ) := rfl
@[simp] theorem evSs_cons : evSs np cf (.cons a b) (s :: ρ) = (evS np cf a (s :: ρ)).bindN (evSs np cf b) := by
  rw [evSs]
  cases evS np cf a (s :: ρ) <;> rfl
@[simp] theorem endO_next : endO np (.next ρ) = .ok (.fz .non) (ρ.take np) := rfl
@[simp] theorem endO_ret {r : RV} : endO np (.ret r ρ) = .ok r (ρ.take np) := rfl
@[simp] theorem endO_fail : endO np .fail = .fail := rfl
@[simp] theorem endO_ite {c : Prop} [Decidable c] {x y : O} : endO np (if c then x else y) = if c then endO np x else endO np y := by split <;> rfl
theorem runF_eq {f : Fn} {ps : List Sl} (h : ps.length = f.np) : runF cf f ps = endO f.np (evSs f.np cf f.body (ps ++ List.replicate (f.nn - f.np) .un)) := by
  unfold runF
  rw [if_pos h]
/-! ### calls -/
@[simp] theorem arNd_nil : arNd ρ [] = true := rfl
@[simp] theorem arNd_val {l : List Ar} : arNd ρ (.val d :: l) = arNd ρ l := rfl
@[simp] theorem arNd_slot {l : List Ar} : arNd ρ (.slot i :: l) = ((!isOw ρ[i]? || l.all fun | .slot j => j != i | .val _ => true) && arNd ρ l) := rfl
@[simp] theorem arSl_nil : arSl ρ [] = some [] := rfl
@[simp] theorem arSl_val {l : List Ar} : arSl ρ (.val d :: l) = (arSl ρ l).map (.fz d :: ·) := rfl
def arS (s : Option Sl) (r : Option (List Sl)) : Option (List Sl) :=
  match s with
    | some (.fz d) => r.map (.fz d :: ·)
    | some (.ow d) => r.map (.ow d :: ·)
    | _ => none
@[simp] theorem arS_fz {r : Option (List Sl)} : arS (some (.fz d)) r = r.map (.fz d :: ·) := rfl
@[simp] theorem arS_ow {r : Option (List Sl)} : arS (some (.ow d)) r = r.map (.ow d :: ·) := rfl
@[simp] theorem arSl_slot {l : List Ar} : arSl ρ (.slot i :: l) = arS ρ[i]? (arSl ρ l) := by
  rw [arSl]
  cases ρ[i]? with
  | none => rfl
  | some x => cases x <;> rfl
@[simp] theorem arBack_nil : arBack [] [] ρ = some ρ := rfl
@[simp] theorem arBack_val {l : List Ar} {p : Sl} {ps : List Sl} : arBack (.val d :: l) (p :: ps) ρ = arBack l ps ρ := rfl
def arB (i : Nat) (s : Option Sl) (p : Sl) (l : List Ar) (ps : List Sl) (ρ : Rho) : Option Rho :=
  match s with
    | some (.ow _) => (match p with
      | .un => none
      | p => arBack l ps (ρ.set i p))
    | _ => arBack l ps ρ
@[simp] theorem arB_fz {p : Sl} {l : List Ar} {ps : List Sl} : arB i (some (.fz d)) p l ps ρ = arBack l ps ρ := rfl
@[simp] theorem arB_owf {d' : D} {l : List Ar} {ps : List Sl} : arB i (some (.ow d)) (.fz d') l ps ρ = arBack l ps (ρ.set i (.fz d')) := rfl
@[simp] theorem arB_owo {d' : D} {l : List Ar} {ps : List Sl} : arB i (some (.ow d)) (.ow d') l ps ρ = arBack l ps (ρ.set i (.ow d')) := rfl
@[simp] theorem arBack_slot {l : List Ar} {p : Sl} {ps : List Sl} : arBack (.slot i :: l) (p :: ps) ρ = arB i ρ[i]? p l ps ρ := by
  cases p with
  | un =>
    rw [arBack]
    cases ρ[i]? with
    | none => rfl
    | some x => cases x <;> rfl
  | fz d =>
    rw [arBack]
    · cases ρ[i]? with
      | none => rfl
      | some x => cases x <;> rfl
    · intro z; cases z
  | ow d =>
    rw [arBack]
    · cases ρ[i]? with
      | none => rfl
      | some x => cases x <;> rfl
    · intro z; cases z
def callB (r : CRes) (as : List Ar) (ρ : Rho) : R RV := callR r as ρ
def bkR (r : RV) (o : Option Rho) : R RV :=
  match o with
    | none => .fail
    | some ρ' => match r with
      | .bor _ => .fail
      | r => .ok r ρ'
@[simp] theorem bkR_fz : bkR (.fz d) (some ρ) = .ok (.fz d) ρ := rfl
@[simp] theorem bkR_ow : bkR (.ow d) (some ρ) = .ok (.ow d) ρ := rfl
@[simp] theorem callR_ok {r : RV} {ps : List Sl} {as : List Ar} : callR (.ok r ps) as ρ = bkR r (arBack as ps ρ) := rfl
def callP (cf : List Sl → CRes) (as : List Ar) (ps : Option (List Sl)) (ρ : Rho) : R RV :=
  match ps with
    | none => .fail
    | some ps => callR (cf ps) as ρ
@[simp] theorem callP_some {f : List Sl → CRes} {as : List Ar} {ps : List Sl} : callP f as (some ps) ρ = callR (f ps) as ρ := rfl
@[simp] theorem callA_cons {f : List Sl → CRes} {as : List Ar} : callA f as (s :: ρ) = if arNd (s :: ρ) as then callP f as (arSl (s :: ρ) as) (s :: ρ) else .fail := rfl
/-! ### targets -/
@[simp] theorem bindT_name : bindT np (.tName i) d ρ = setSl np i (.fz d) ρ := rfl
@[simp] theorem bindT_tup {ts : C} {l : List D} : bindT np (.tTup ts) (.tup l) ρ = bindTs np ts l ρ := rfl
@[simp] theorem bindTs_nil : bindTs np .nil [] ρ = some ρ := rfl
@[simp] theorem bindTs_cons {t ts : C} {l : List D} : bindTs np (.cons t ts) (d :: l) ρ = (bindT np t d ρ).bind fun ρ => bindTs np ts l ρ := rfl
end
@[simp] theorem map_ite {α β : Type} {c : Prop} [Decidable c] {x y : Option α} {f : α → β} : (if c then x else y).map f = if c then x.map f else y.map f := by split <;> rfl
@[simp] theorem obind_ite {α β : Type} {c : Prop} [Decidable c] {x y : Option α} {f : α → Option β} : (if c then x else y).bind f = if c then x.bind f else y.bind f := by split <;> rfl
end PV

/-! PvL: lemmas over the evaluator: comprehensions, loops, equality. -/
namespace PV
open PySem L2
theorem wipeS_length (ρ : Rho) (vs : List Nat) : (wipeS ρ vs).length = ρ.length := by
  induction vs with
  | nil => rfl
  | cons w ws ih => unfold wipeS; rw [List.length_set, ih]
theorem wipeS_get (ρ : Rho) (i : Nat) : ∀ vs : List Nat, (wipeS ρ vs)[i]? = if i ∈ vs ∧ i < ρ.length then some .un else ρ[i]?
  | [] => by simp [wipeS]
  | v :: vs => by
    have hl := wipeS_length ρ vs
    unfold wipeS
    rw [List.getElem?_set, wipeS_get ρ i vs, hl]
    by_cases hv : v = i
    · subst hv
      by_cases hi : v < ρ.length
      · simp [hi]
      · rw [if_pos rfl, if_neg hi, if_neg (fun z => hi z.2), List.getElem?_eq_none (by omega)]
    · have hv' : i ≠ v := fun z => hv z.symm
      simp [hv, hv', List.mem_cons]
theorem backS_get (ρ0 ρ : Rho) (hl : ρ0.length = ρ.length) (i : Nat) : ∀ vs : List Nat, (backS ρ0 ρ vs)[i]? = if i ∈ vs then ρ0[i]? else ρ[i]?
  | [] => by simp [backS]
  | v :: vs => by
    have hlen : ∀ ws : List Nat, (backS ρ0 ρ ws).length = ρ.length := by
      intro ws
      induction ws with
      | nil => rfl
      | cons w ws ih =>
        unfold backS
        split
        · rw [List.length_set, ih]
        · exact ih
    unfold backS
    split
    · rename_i s hs
      have hv : v < ρ.length := by rw [← hl]; exact (List.getElem?_eq_some_iff.mp hs).1
      rw [List.getElem?_set, backS_get ρ0 ρ hl i vs, hlen]
      by_cases h : v = i
      · subst h
        rw [if_pos rfl, if_pos hv, if_pos List.mem_cons_self, hs]
      · have h' : i ≠ v := fun z => h z.symm
        simp [h, h', List.mem_cons]
    · rename_i hs
      rw [backS_get ρ0 ρ hl i vs]
      by_cases h : v = i
      · subst h
        rw [if_pos List.mem_cons_self]
        split
        · rfl
        · rw [hs]
          exact List.getElem?_eq_none (by rw [← hl]; exact List.getElem?_eq_none_iff.mp hs)
      · have h' : i ≠ v := fun z => h z.symm
        simp [h', List.mem_cons]
theorem back_wipe (ρ : Rho) (vs : List Nat) : backS ρ (wipeS ρ vs) vs = ρ := by
  refine List.ext_getElem? fun i => ?_
  rw [backS_get ρ _ (wipeS_length ρ vs).symm, wipeS_get]
  split
  · rfl
  · rename_i h
    rw [if_neg fun z => h z.1]
/-- a comprehension that changes nothing -/
theorem lcL_pure {bd : D → Rho → Option Rho} {tt : Rho → R Bool} {ee : Rho → R RV} {vs : List Nat} {ρ0 : Rho} {p : D → Bool} {f : D → D} :
    ∀ (ds acc : List D), acc.length + ds.length ≤ maxLen → (∀ d ∈ ds, ∃ ρ1, bd d ρ0 = some ρ1 ∧ tt ρ1 = .ok (p d) ρ1 ∧ (p d = true → (ee ρ1).bind (fun r ρ => toFz ρ r) = .ok (f d) ρ1) ∧ wipeS ρ1 vs = ρ0) →
      lcL bd tt ee vs ds acc ρ0 = .ok (acc ++ (ds.filter p).map f) ρ0
  | [], acc, _, _ => by simp [lcL]
  | d :: ds, acc, hl, h => by
    obtain ⟨ρ1, h1, h2, h3, h4⟩ := h d List.mem_cons_self
    rw [List.length_cons] at hl
    unfold lcL
    simp only [h1, h2, R.bind_ok]
    cases hp : p d with
    | false =>
      rw [if_neg Bool.false_ne_true, h4, lcL_pure ds acc (by omega) fun d' hd => h d' (List.mem_cons_of_mem _ hd), List.filter_cons_of_neg (by simp [hp])]
    | true =>
      rw [if_pos rfl]
      have h3 := h3 hp
      cases hr : ee ρ1 with
      | fail => rw [hr] at h3; cases h3
      | ok r ρ2 =>
        rw [hr] at h3
        have h3 : toFz ρ2 r = .ok (f d) ρ1 := h3
        simp only [R.bind_ok, h3]
        rw [if_pos (by omega), h4, lcL_pure ds (acc ++ [f d]) (by rw [List.length_append]; simp; omega) fun d' hd => h d' (List.mem_cons_of_mem _ hd), List.filter_cons_of_pos hp]
        simp
theorem lcS_pure {np : Nat} {cf : Nat → List Sl → CRes} {elt tg ifs : C} {vs : List Nat} {ds : List D} {ρ : Rho} (p : D → Bool) (f : D → D) (hv : vs.any (fun v => isOw ρ[v]? || decide (v < np)) = false) (hl : ds.length ≤ maxLen)
    (h : ∀ d ∈ ds, ∃ ρ1, bindT np tg d (wipeS ρ vs) = some ρ1 ∧ evT np cf ifs ρ1 = .ok (p d) ρ1 ∧ (p d = true → (evE np cf elt ρ1).bind (fun r ρ => toFz ρ r) = .ok (f d) ρ1) ∧ wipeS ρ1 vs = wipeS ρ vs) :
    lcS np cf elt tg ifs vs ds ρ = .ok (.ow (.lst ((ds.filter p).map f))) ρ := by
  unfold lcS
  rw [hv, if_neg Bool.false_ne_true, lcL_pure ds [] (by simpa using hl) h]
  simp [back_wipe]
theorem filter_true {α : Type} : ∀ l : List α, l.filter (fun _ => true) = l
  | [] => rfl
  | x :: l => by rw [List.filter_cons_of_pos rfl, filter_true l]
/-- .. without a test -/
theorem lcS_map {np : Nat} {cf : Nat → List Sl → CRes} {elt tg : C} {vs : List Nat} {ds : List D} {ρ : Rho} (f : D → D) (hv : vs.any (fun v => isOw ρ[v]? || decide (v < np)) = false) (hl : ds.length ≤ maxLen)
    (h : ∀ d ∈ ds, ∃ s ρ1, bindT np tg d (wipeS ρ vs) = some (s :: ρ1) ∧ (evE np cf elt (s :: ρ1)).bind (fun r ρ => toFz ρ r) = .ok (f d) (s :: ρ1) ∧ wipeS (s :: ρ1) vs = wipeS ρ vs) :
    lcS np cf elt tg .nil vs ds ρ = .ok (.ow (.lst (ds.map f))) ρ := by
  have e := lcS_pure (np := np) (cf := cf) (elt := elt) (tg := tg) (ifs := .nil) (vs := vs) (ds := ds) (ρ := ρ) (fun _ => true) f hv hl fun d hd => by
    obtain ⟨s, ρ1, h1, h2, h3⟩ := h d hd
    exact ⟨s :: ρ1, h1, rfl, fun _ => h2, h3⟩
  rw [e, filter_true]
/-! ### equality -/
theorem eqD_int {i j : Int} : eqD (.int i) (.int j) = some (decide (i = j)) := by
  unfold eqD
  rw [if_pos (show ((D.int i).cmpOk && (D.int j).cmpOk) = true from rfl)]
  show some (i == j) = _
  rw [Bool.beq_eq_decide_eq]
mutual
theorem eqv_refl : ∀ d : PyData, d.canLay0 = true → PyData.eqv d d = true
  | .none, _ => rfl
  | .bool b, _ => by simp [PyData.eqv]
  | .int b, _ => by simp [PyData.eqv]
  | .str b, _ => by simp [PyData.eqv]
  | .list l, h => by simp only [PyData.eqv]; exact eqvAll_refl l (by simpa [PyData.canLay0] using h)
  | .tuple l, h => by simp only [PyData.eqv]; exact eqvAll_refl l (by simpa [PyData.canLay0] using h)
  | .dict _, h => by simp [PyData.canLay0] at h
theorem eqvAll_refl : ∀ l : List PyData, PyData.canLayAll0 l = true → PyData.eqvAll l l = true
  | [], _ => rfl
  | d :: l, h => by
    have h' : d.canLay0 = true ∧ PyData.canLayAll0 l = true := by simpa [PyData.canLayAll0] using h
    simp [PyData.eqvAll, eqv_refl d h'.1, eqvAll_refl l h'.2]
end
theorem eqD_refl {d : D} (h : d.cmpOk = true) : eqD d d = some true := by
  unfold eqD
  rw [h, if_pos (show (true && true) = true from rfl)]
  have h := (Bool.and_eq_true_iff.mp h).2
  rw [eqv_refl d.py (SeqAt.canLay_of_shaped h)]
/-- data without texts, of at most n levels -/
def D.lev : Nat → D → Bool
  | _, .non => true
  | _, .bl _ => true
  | _, .int _ => true
  | n + 1, .lst l => l.all (D.lev n)
  | n + 1, .tup l => l.all (D.lev n)
  | _, _ => false
theorem pys_map (l : List D) : D.pys l = l.map D.py := by
  induction l with
  | nil => rfl
  | cons d l ih => show d.py :: D.pys l = _; rw [ih]; rfl
theorem plains_all (l : List D) : D.plains l = l.all D.plain := by
  induction l with
  | nil => rfl
  | cons d l ih => show (d.plain && D.plains l) = _; rw [ih]; rfl
theorem canLayAll_all (l : List PyData) : PyData.canLayAll0 l = l.all PyData.canLay0 := by
  induction l with
  | nil => rfl
  | cons d l ih => show (d.canLay0 && PyData.canLayAll0 l) = _; rw [ih]; rfl
theorem depthAll_le {n : Nat} : ∀ l : List PyData, (∀ d ∈ l, d.depth ≤ n) → PyData.depthAll l ≤ n
  | [], _ => Nat.zero_le _
  | d :: l, h => by
    have h1 := h d List.mem_cons_self
    have h2 := depthAll_le l fun x hx => h x (List.mem_cons_of_mem _ hx)
    show max d.depth (PyData.depthAll l) ≤ n
    omega
theorem lev_ok : ∀ (n : Nat) (d : D), d.lev n = true → d.plain = true ∧ d.py.canLay0 = true ∧ d.py.depth ≤ n
  | n, .non, _ => ⟨rfl, rfl, Nat.zero_le _⟩
  | n, .bl _, _ => ⟨rfl, rfl, Nat.zero_le _⟩
  | n, .int _, _ => ⟨rfl, rfl, Nat.zero_le _⟩
  | n + 1, .lst l, h => by
    have h : l.all (D.lev n) = true := h
    have ih := fun d (hd : d ∈ l) => lev_ok n d (List.all_eq_true.mp h d hd)
    refine ⟨?_, ?_, ?_⟩
    · show D.plains l = true
      rw [plains_all]
      exact List.all_eq_true.mpr fun d hd => (ih d hd).1
    · show PyData.canLayAll0 (D.pys l) = true
      rw [canLayAll_all, pys_map, List.all_map]
      exact List.all_eq_true.mpr fun d hd => (ih d hd).2.1
    · show PyData.depthAll (D.pys l) + 1 ≤ n + 1
      have := depthAll_le (n := n) (D.pys l) fun x hx => by
        rw [pys_map] at hx
        obtain ⟨d, hd, rfl⟩ := List.mem_map.mp hx
        exact (ih d hd).2.2
      omega
  | n + 1, .tup l, h => by
    have h : l.all (D.lev n) = true := h
    have ih := fun d (hd : d ∈ l) => lev_ok n d (List.all_eq_true.mp h d hd)
    refine ⟨?_, ?_, ?_⟩
    · show D.plains l = true
      rw [plains_all]
      exact List.all_eq_true.mpr fun d hd => (ih d hd).1
    · show PyData.canLayAll0 (D.pys l) = true
      rw [canLayAll_all, pys_map, List.all_map]
      exact List.all_eq_true.mpr fun d hd => (ih d hd).2.1
    · show PyData.depthAll (D.pys l) + 1 ≤ n + 1
      have := depthAll_le (n := n) (D.pys l) fun x hx => by
        rw [pys_map] at hx
        obtain ⟨d, hd, rfl⟩ := List.mem_map.mp hx
        exact (ih d hd).2.2
      omega
  | 0, .lst _, h => by cases h
  | 0, .tup _, h => by cases h
  | n, .str _, h => by cases n <;> cases h
  | n, .dct _ _, h => by cases n <;> cases h
  | n, .dcT _ _, h => by cases n <;> cases h
  | n, .obj _ _, h => by cases n <;> cases h
  | n, .scr _, h => by cases n <;> cases h
theorem lev_cmp {d : D} (h : d.lev 10 = true) : d.cmpOk = true := by
  obtain ⟨h1, h2, h3⟩ := lev_ok 10 d h
  unfold D.cmpOk SeqAt.shaped
  rw [h1, h2, decide_eq_true (show d.py.depth ≤ 64 by omega)]
  rfl
theorem eqD_same {d : D} (h : d.lev 10 = true) : eqD d d = some true := eqD_refl (lev_cmp h)
end PV

/-! PvB: how plain data stands in the heap; what a step leaves. -/
namespace PV
open PySem L2
mutual
/-- v is the data d, all of it in F -/
def Rp (K : PySem.W.Frag) (F : Hp) : D → V → Prop
  | .non, v => v = .non
  | .bl b, v => v = .bl b
  | .int i, v => v = .int i
  | .str s, v => v = .str s
  | .lst l, v => ∃ a vs, v = .ref a ∧ F a = some (.lst vs) ∧ RpL K F l vs
  | .tup l, v => ∃ a vs, v = .ref a ∧ F a = some (.tup vs) ∧ RpL K F l vs
  | .dct ks l, v => ∃ a kvs, v = .ref a ∧ F a = some (.dK kvs) ∧ kvs.map (·.1) = ks ∧ RpL K F l (kvs.map (·.2))
  | .dcT ks l, v => ∃ a kvs, v = .ref a ∧ F a = some (.dT kvs) ∧ kvs.map (·.1) = ks ∧ RpL K F l (kvs.map (·.2))
  | .obj _ _, _ => False
  | .scr l, v => ∃ a, v = .ref a ∧ SqL K F a (l.map V.int)
def RpL (K : PySem.W.Frag) (F : Hp) : List D → List V → Prop
  | [], vs => vs = []
  | d :: l, vs => ∃ v r, vs = v :: r ∧ Rp K F d v ∧ RpL K F l r
end
/-- the object o is the data d, its parts in F -/
def RpO (K : PySem.W.Frag) (F : Hp) : D → HO → Prop
  | .lst l, o => ∃ vs, o = .lst vs ∧ RpL K F l vs
  | .dct ks l, o => ∃ kvs, o = .dK kvs ∧ kvs.map (·.1) = ks ∧ RpL K F l (kvs.map (·.2))
  | .dcT ks l, o => ∃ kvs, o = .dT kvs ∧ kvs.map (·.1) = ks ∧ RpL K F l (kvs.map (·.2))
  | _, _ => False
section
variable {K : PySem.W.Frag} {F F' H H' : Hp}
mutual
theorem Rp.mono (e : Same F F') : ∀ (d : D) (v : V), Rp K F d v → Rp K F' d v
  | .non, _, h => h
  | .bl _, _, h => h
  | .int _, _, h => h
  | .str _, _, h => h
  | .lst l, v, h => by
    obtain ⟨a, vs, rfl, h1, h2⟩ := h
    exact ⟨a, vs, rfl, e _ _ h1, RpL.mono e l vs h2⟩
  | .tup l, v, h => by
    obtain ⟨a, vs, rfl, h1, h2⟩ := h
    exact ⟨a, vs, rfl, e _ _ h1, RpL.mono e l vs h2⟩
  | .dct ks l, v, h => by
    obtain ⟨a, kvs, rfl, h1, h3, h2⟩ := h
    exact ⟨a, kvs, rfl, e _ _ h1, h3, RpL.mono e l _ h2⟩
  | .dcT ks l, v, h => by
    obtain ⟨a, kvs, rfl, h1, h3, h2⟩ := h
    exact ⟨a, kvs, rfl, e _ _ h1, h3, RpL.mono e l _ h2⟩
  | .obj _ _, _, h => h
  | .scr l, v, h => by
    obtain ⟨a, rfl, h1⟩ := h
    exact ⟨a, rfl, e.seq h1⟩
theorem RpL.mono (e : Same F F') : ∀ (l : List D) (vs : List V), RpL K F l vs → RpL K F' l vs
  | [], _, h => h
  | d :: l, _, h => by
    obtain ⟨v, r, rfl, h1, h2⟩ := h
    exact ⟨v, r, rfl, Rp.mono e d v h1, RpL.mono e l r h2⟩
end
theorem RpO.mono (e : Same F F') : ∀ {d : D} {o : HO}, RpO K F d o → RpO K F' d o
  | .lst l, _, h => by obtain ⟨vs, rfl, h⟩ := h; exact ⟨vs, rfl, RpL.mono e l vs h⟩
  | .dct ks l, _, h => by obtain ⟨vs, rfl, h3, h⟩ := h; exact ⟨vs, rfl, h3, RpL.mono e l _ h⟩
  | .dcT ks l, _, h => by obtain ⟨vs, rfl, h3, h⟩ := h; exact ⟨vs, rfl, h3, RpL.mono e l _ h⟩
  | .non, _, h => h.elim
  | .bl _, _, h => h.elim
  | .int _, _, h => h.elim
  | .str _, _, h => h.elim
  | .tup _, _, h => h.elim
  | .obj _ _, _, h => h.elim
  | .scr _, _, h => h.elim
theorem rp_of {p : Addr} {o : HO} (e : F p = some o) : ∀ {d : D}, RpO K F d o → Rp K F d (.ref p)
  | .lst l, h => by obtain ⟨vs, rfl, h⟩ := h; exact ⟨p, vs, rfl, e, h⟩
  | .dct ks l, h => by obtain ⟨vs, rfl, h3, h⟩ := h; exact ⟨p, vs, rfl, e, h3, h⟩
  | .dcT ks l, h => by obtain ⟨vs, rfl, h3, h⟩ := h; exact ⟨p, vs, rfl, e, h3, h⟩
  | .non, h => h.elim
  | .bl _, h => h.elim
  | .int _, h => h.elim
  | .str _, h => h.elim
  | .tup _, h => h.elim
  | .obj _ _, h => h.elim
  | .scr _, h => h.elim
theorem RpL.length : ∀ {l : List D} {vs : List V}, RpL K F l vs → vs.length = l.length
  | [], _, h => by rw [show _ = [] from h]; rfl
  | d :: l, _, h => by
    obtain ⟨v, r, rfl, h1, h2⟩ := h
    rw [List.length_cons, List.length_cons, RpL.length h2]
theorem RpL.get : ∀ {l : List D} {vs : List V} {i : Nat} {d : D}, RpL K F l vs → l[i]? = some d → ∃ v, vs[i]? = some v ∧ Rp K F d v
  | [], _, _, _, _, e => by simp at e
  | d :: l, _, 0, _, h, e => by
    obtain ⟨v, r, rfl, h1, h2⟩ := h
    cases e
    exact ⟨v, rfl, h1⟩
  | d :: l, _, i + 1, d', h, e => by
    obtain ⟨v, r, rfl, h1, h2⟩ := h
    obtain ⟨v', e', h'⟩ := RpL.get (i := i) h2 (by simpa using e)
    exact ⟨v', by simpa using e', h'⟩
theorem RpL.append : ∀ {l m : List D} {vs ws : List V}, RpL K F l vs → RpL K F m ws → RpL K F (l ++ m) (vs ++ ws)
  | [], _, _, _, h, h' => by rw [show _ = [] from h]; exact h'
  | d :: l, m, _, ws, h, h' => by
    obtain ⟨v, r, rfl, h1, h2⟩ := h
    exact ⟨v, r ++ ws, rfl, h1, RpL.append h2 h'⟩
theorem RpL.one {d : D} {v : V} (h : Rp K F d v) : RpL K F [d] [v] := ⟨v, [], rfl, h, rfl⟩
theorem RpL.set : ∀ {l : List D} {vs : List V} {d : D} {v : V} (i : Nat), RpL K F l vs → Rp K F d v → RpL K F (l.set i d) (vs.set i v)
  | [], _, _, _, _, h, _ => by rw [show _ = [] from h]; exact rfl
  | d :: l, _, _, _, 0, h, h' => by
    obtain ⟨v, r, rfl, h1, h2⟩ := h
    exact ⟨_, r, rfl, h', h2⟩
  | d :: l, _, _, _, i + 1, h, h' => by
    obtain ⟨v, r, rfl, h1, h2⟩ := h
    exact ⟨v, _, rfl, h1, RpL.set i h2 h'⟩
theorem RpL.take : ∀ {l : List D} {vs : List V} (n : Nat), RpL K F l vs → RpL K F (l.take n) (vs.take n)
  | _, _, 0, _ => rfl
  | [], _, n + 1, h => by rw [show _ = [] from h]; exact rfl
  | d :: l, _, n + 1, h => by
    obtain ⟨v, r, rfl, h1, h2⟩ := h
    exact ⟨v, _, rfl, h1, RpL.take n h2⟩
theorem RpL.drop : ∀ {l : List D} {vs : List V} (n : Nat), RpL K F l vs → RpL K F (l.drop n) (vs.drop n)
  | _, _, 0, h => h
  | [], _, n + 1, h => by rw [show _ = [] from h]; exact rfl
  | d :: l, _, n + 1, h => by
    obtain ⟨v, r, rfl, h1, h2⟩ := h
    exact RpL.drop n h2
mutual
theorem Rp.dp : ∀ (d : D) (v : V), d.plain = true → Rp K F d v → Dp K F v d.py
  | .non, _, _, h => by rw [show _ = V.non from h]; exact .non
  | .bl b, _, _, h => by rw [show _ = V.bl b from h]; exact .bl b
  | .int b, _, _, h => by rw [show _ = V.int b from h]; exact .int b
  | .str b, _, _, h => by rw [show _ = V.str b from h]; exact .str b
  | .lst l, v, p, h => by
    obtain ⟨a, vs, rfl, h1, h2⟩ := h
    exact .lst (SqL.of h1) (RpL.dp l vs p h2)
  | .tup l, v, p, h => by
    obtain ⟨a, vs, rfl, h1, h2⟩ := h
    exact .tup (SqT.of h1) (RpL.dp l vs p h2)
  | .dct _ _, _, p, _ => by cases p
  | .dcT _ _, _, p, _ => by cases p
  | .obj _ _, _, p, _ => by cases p
  | .scr _, _, p, _ => by cases p
theorem RpL.dp : ∀ (l : List D) (vs : List V), D.plains l = true → RpL K F l vs → DpAll K F vs (D.pys l)
  | [], _, _, h => by rw [show _ = [] from h]; exact .nil
  | d :: l, _, p, h => by
    obtain ⟨v, r, rfl, h1, h2⟩ := h
    have p' : d.plain = true ∧ D.plains l = true := by simpa [D.plains] using p
    exact .cons (Rp.dp d v p'.1 h1) (RpL.dp l r p'.2 h2)
end
end

/-- the address that the name i alone holds -/
def OwnAt (ρ : Rho) (σ : St) (i : Nat) (p : Addr) : Prop := ∃ d, ρ[i]? = some (.ow d) ∧ σ[i]? = some (some (.ref p))
def Live (ρ : Rho) (i : Nat) : Prop := ∃ d, ρ[i]? = some (.fz d) ∨ ρ[i]? = some (.ow d)
def SlOk (K : PySem.W.Frag) (F H : Hp) : Option Sl → Option (Option V) → Prop
  | some (.fz d), w => ∃ v, w = some (some v) ∧ Rp K F d v
  | some (.ow d), w => ∃ p o, w = some (some (.ref p)) ∧ H p = some o ∧ F p = none ∧ RpO K F d o
  | _, _ => True
/-- a def's entry: the heap, what never changes, the parameters, what they alone hold -/
structure Bs where
  H : Hp
  F : Hp
  np : Nat
  vs : List V
  O : Addr → Prop
structure Rel (K : PySem.W.Frag) (B : Bs) (F H : Hp) (ρ : Rho) (σ : St) : Prop where
  same : Same F H
  len : ρ.length = σ.length
  sl : ∀ i : Nat, SlOk K F H ρ[i]? σ[i]?
  dis : ∀ i j p, OwnAt ρ σ i p → OwnAt ρ σ j p → i = j
  sameB : Same B.F F
  pre : ∀ b o, B.H b = some o → ¬ B.O b → H b = some o
  dom : ∀ b o, B.H b = some o → ∃ o', H b = some o'
  frz : ∀ b o, B.F b = none → B.H b = some o → ¬ B.O b → F b = none
  loc : ∀ i p, B.np ≤ i → OwnAt ρ σ i p → B.H p = none
  par : ∀ i p, i < B.np → OwnAt ρ σ i p → B.O p
  arg : ∀ i : Nat, i < B.np → σ[i]? = (B.vs[i]?).map some
/-- what an expression may have done -/
structure Post (K : PySem.W.Frag) (B : Bs) (σ : St) (F H : Hp) (ρ : Rho) (F' H' : Hp) (ρ' : Rho) : Prop where
  same : Same F F'
  rel : Rel K B F' H' ρ' σ
  pres : ∀ b o, H b = some o → (∀ i, ¬ OwnAt ρ σ i b) → H' b = some o
  dom : ∀ b o, H b = some o → ∃ o', H' b = some o'
  own : ∀ i p, OwnAt ρ' σ i p → OwnAt ρ σ i p
  fr : ∀ b o, F b = none → H b = some o → (∀ i, ¬ OwnAt ρ σ i b) → F' b = none
  live : ∀ i, Live ρ i → Live ρ' i
def RvOk (K : PySem.W.Frag) (F H : Hp) (ρ : Rho) (σ : St) : RV → V → Prop
  | .fz d, v => Rp K F d v
  | .ow d, v => ∃ p o, v = .ref p ∧ H p = some o ∧ F p = none ∧ RpO K F d o ∧ ∀ i, ¬ OwnAt ρ σ i p
  | .bor i, v => σ[i]? = some (some v) ∧ Live ρ i
def Fresh (H : Hp) : RV → V → Prop
  | .ow _, v => ∀ p, v = .ref p → H p = none
  | _, _ => True
/-- v may be read as d -/
def Ct (K : PySem.W.Frag) (F H : Hp) (d : D) (v : V) : Prop := Rp K F d v ∨ ∃ p o, v = .ref p ∧ H p = some o ∧ RpO K F d o
section
variable {K : PySem.W.Frag} {B : Bs} {σ : St} {F F1 F2 F' H H1 H2 H' : Hp} {ρ ρ1 ρ2 ρ' : Rho} {r : RV} {v : V} {d : D}
theorem Post.refl (h : Rel K B F H ρ σ) : Post K B σ F H ρ F H ρ :=
  ⟨Same.refl F, h, fun _ _ e _ => e, fun _ o e => ⟨o, e⟩, fun _ _ e => e, fun _ _ e _ _ => e, fun _ e => e⟩
theorem Post.trans (a : Post K B σ F H ρ F1 H1 ρ1) (b : Post K B σ F1 H1 ρ1 F2 H2 ρ2) : Post K B σ F H ρ F2 H2 ρ2 where
  same := a.same.trans b.same
  rel := b.rel
  pres := fun c o e n => b.pres c o (a.pres c o e n) fun i q => n i (a.own i c q)
  dom := fun c o e => by
    obtain ⟨o', e'⟩ := a.dom c o e
    exact b.dom c o' e'
  own := fun i p q => a.own i p (b.own i p q)
  fr := fun c o e h n => by
    have e' := a.pres c o h n
    exact b.fr c o (a.fr c o e h n) e' fun i q => n i (a.own i c q)
  live := fun i l => b.live i (a.live i l)
theorem RvOk.step (a : Post K B σ F1 H1 ρ1 F2 H2 ρ2) : ∀ {r : RV} {v : V}, RvOk K F1 H1 ρ1 σ r v → RvOk K F2 H2 ρ2 σ r v
  | .fz d, v, h => Rp.mono a.same d v h
  | .ow d, v, h => by
    obtain ⟨p, o, rfl, h1, h2, h3, h4⟩ := h
    exact ⟨p, o, rfl, a.pres p o h1 h4, a.fr p o h2 h1 h4, h3.mono a.same, fun i q => h4 i (a.own i p q)⟩
  | .bor i, v, h => ⟨h.1, a.live i h.2⟩
theorem der_ct (h : Rel K B F H ρ σ) : ∀ {r : RV} {v : V} {d : D}, RvOk K F H ρ σ r v → der ρ r = some d → Ct K F H d v
  | .fz d, v, _, q, e => by cases e; exact .inl q
  | .ow d, v, _, q, e => by
    cases e
    obtain ⟨p, o, rfl, h1, h2, h3, h4⟩ := q
    exact .inr ⟨p, o, rfl, h1, h3⟩
  | .bor i, v, _, q, e => by
    have s := h.sl i
    have e : (match ρ[i]? with | some (.fz d) => some d | some (.ow d) => some d | _ => none) = some _ := e
    rw [q.1] at s
    split at e
    · rename_i d' hd
      cases e
      rw [hd] at s
      obtain ⟨v', e1, e2⟩ := s
      cases e1
      exact .inl e2
    · rename_i d' hd
      cases e
      rw [hd] at s
      obtain ⟨p, o, e1, e2, e3, e4⟩ := s
      cases e1
      exact .inr ⟨p, o, rfl, e2, e4⟩
    · cases e
theorem Ct.int {i : Int} (h : Ct K F H (.int i) v) : v = .int i := by
  rcases h with h | ⟨p, o, _, _, h⟩
  · exact h
  · exact h.elim
theorem Ct.bl {b : Bool} (h : Ct K F H (.bl b) v) : v = .bl b := by
  rcases h with h | ⟨p, o, _, _, h⟩
  · exact h
  · exact h.elim
theorem Ct.str {s : Str} (h : Ct K F H (.str s) v) : v = .str s := by
  rcases h with h | ⟨p, o, _, _, h⟩
  · exact h
  · exact h.elim
theorem Ct.non (h : Ct K F H .non v) : v = .non := by
  rcases h with h | ⟨p, o, _, _, h⟩
  · exact h
  · exact h.elim
theorem Ct.lst {l : List D} (s : Same F H) (h : Ct K F H (.lst l) v) : ∃ a vs, v = .ref a ∧ H a = some (.lst vs) ∧ RpL K F l vs := by
  rcases h with ⟨a, vs, rfl, h1, h2⟩ | ⟨p, o, rfl, e, vs, rfl, h⟩
  · exact ⟨a, vs, rfl, s _ _ h1, h2⟩
  · exact ⟨p, vs, rfl, e, h⟩
theorem Ct.tup {l : List D} (s : Same F H) (h : Ct K F H (.tup l) v) : ∃ a vs, v = .ref a ∧ H a = some (.tup vs) ∧ RpL K F l vs := by
  rcases h with ⟨a, vs, rfl, h1, h2⟩ | ⟨p, o, rfl, e, h⟩
  · exact ⟨a, vs, rfl, s _ _ h1, h2⟩
  · exact h.elim
theorem Ct.dp (s : Same F H) (p : d.plain = true) (h : Ct K F H d v) : Dp K H v d.py := by
  rcases h with h | ⟨q, o, rfl, e, h⟩
  · exact Rp.dp d v p (Rp.mono s d v h)
  · cases d with
    | lst l =>
      obtain ⟨vs, rfl, h⟩ := h
      exact .lst (SqL.of e) (RpL.dp l vs p (RpL.mono s l vs h))
    | dct _ _ => cases p
    | dcT _ _ => cases p
    | obj _ _ => cases p
    | scr _ => cases p
    | non => exact h.elim
    | bl _ => exact h.elim
    | int _ => exact h.elim
    | str _ => exact h.elim
    | tup _ => exact h.elim
theorem Ct.scr {l : List Int} (s : Same F H) (h : Ct K F H (.scr l) v) : ∃ a, v = .ref a ∧ SqL K H a (l.map V.int) := by
  rcases h with ⟨a, rfl, h1⟩ | ⟨p, o, rfl, e, h⟩
  · exact ⟨a, rfl, s.seq h1⟩
  · exact h.elim
/-- the slot i changes its word alone: F grows by what it held -/
theorem Rel.freeze (h : Rel K B F H ρ σ) {i : Nat} {d : D} (e : ρ[i]? = some (.ow d)) : ∃ p o, σ[i]? = some (some (.ref p)) ∧ H p = some o ∧ F p = none ∧ RpO K F d o ∧
    Post K B σ F H ρ (upd F p o) H (ρ.set i (.fz d)) ∧ Rp K (upd F p o) d (.ref p) := by
  have s := h.sl i
  rw [e] at s
  obtain ⟨p, o, e1, e2, e3, e4⟩ := s
  have sm : Same F (upd F p o) := fun b x q => by
    rw [upd_ne (ne_of_none q e3)]
    exact q
  have smH : Same (upd F p o) H := fun b x q => by
    by_cases hb : b = p
    · subst hb
      rw [upd_same] at q
      cases q
      exact e2
    · rw [upd_ne hb] at q
      exact h.same b x q
  have hi : i < ρ.length := (List.getElem?_eq_some_iff.mp e).1
  have oi : OwnAt ρ σ i p := ⟨d, e, e1⟩
  have ow' : ∀ j q, OwnAt (ρ.set i (.fz d)) σ j q → j ≠ i ∧ OwnAt ρ σ j q := fun j q ⟨d', g1, g2⟩ => by
    by_cases hj : j = i
    · subst hj
      rw [List.getElem?_set_self hi] at g1
      cases g1
    · rw [List.getElem?_set_ne (Ne.symm hj)] at g1
      exact ⟨hj, d', g1, g2⟩
  have rp : Rp K (upd F p o) d (.ref p) := rp_of upd_same (e4.mono sm)
  refine ⟨p, o, e1, e2, e3, e4, ⟨sm, ⟨smH, by rw [List.length_set]; exact h.len, fun j => ?_, fun j k q a b => h.dis j k q (ow' j q a).2 (ow' k q b).2, h.sameB.trans sm, h.pre, h.dom, fun b x q g n => ?_, fun j q g a => h.loc j q g (ow' j q a).2, fun j q g a => h.par j q g (ow' j q a).2, h.arg⟩,
    fun _ _ q _ => q, fun _ x q => ⟨x, q⟩, fun j q a => (ow' j q a).2, fun b x q g n => ?_, fun j l => ?_⟩, rp⟩
  · by_cases hj : j = i
    · subst hj
      rw [List.getElem?_set_self hi, e1]
      exact ⟨_, rfl, rp⟩
    · rw [List.getElem?_set_ne (Ne.symm hj)]
      have sj := h.sl j
      cases g : ρ[j]? with
      | none => trivial
      | some w =>
        rw [g] at sj
        cases w with
        | un => trivial
        | fz d' =>
          obtain ⟨v', q1, q2⟩ := sj
          exact ⟨v', q1, Rp.mono sm d' v' q2⟩
        | ow d' =>
          obtain ⟨p', o', q1, q2, q3, q4⟩ := sj
          refine ⟨p', o', q1, q2, ?_, q4.mono sm⟩
          rw [upd_ne fun z => hj (h.dis j i p ⟨d', g, by rw [q1, z]⟩ oi)]
          exact q3
  · have hb : b ≠ p := fun z => by
      subst z
      by_cases hn : B.np ≤ i
      · have := h.loc i b hn oi
        rw [this] at g
        cases g
      · exact n (h.par i b (by omega) oi)
    rw [upd_ne hb]
    exact h.frz b x q g n
  · rw [upd_ne fun z => n i (by rw [z]; exact oi)]
    exact q
  · obtain ⟨d', l⟩ := l
    by_cases hj : j = i
    · subst hj
      exact ⟨d, .inl (List.getElem?_set_self hi)⟩
    · unfold Live
      rw [List.getElem?_set_ne (Ne.symm hj)]
      exact ⟨d', l⟩
/-- a new thing that no name holds is never changed from now on -/
theorem Post.freezeNew {p : Addr} {o : HO} (h0 : Rel K B F H ρ σ) (a : Post K B σ F H ρ F1 H1 ρ1) (e2 : H1 p = some o) (e3 : F1 p = none) (n : ∀ i, ¬ OwnAt ρ1 σ i p) (hf : H p = none) : Post K B σ F H ρ (upd F1 p o) H1 ρ1 := by
  have h := a.rel
  have hB : B.H p = none := by
    cases q : B.H p with
    | none => rfl
    | some x =>
      obtain ⟨_, z⟩ := h0.dom p x q
      rw [hf] at z
      cases z
  have sm : Same F1 (upd F1 p o) := fun b x q => by
    rw [upd_ne (ne_of_none q e3)]
    exact q
  have smH : Same (upd F1 p o) H1 := fun b x q => by
    by_cases hb : b = p
    · subst hb
      rw [upd_same] at q
      cases q
      exact e2
    · rw [upd_ne hb] at q
      exact h.same b x q
  refine ⟨a.same.trans sm, ⟨smH, h.len, fun j => ?_, h.dis, h.sameB.trans sm, h.pre, h.dom, fun b x q g m => ?_, h.loc, h.par, h.arg⟩, a.pres, a.dom, a.own, fun b x q g m => ?_, a.live⟩
  · have sj := h.sl j
    cases g : ρ1[j]? with
    | none => trivial
    | some w =>
      rw [g] at sj
      cases w with
      | un => trivial
      | fz d' =>
        obtain ⟨v', q1, q2⟩ := sj
        exact ⟨v', q1, Rp.mono sm d' v' q2⟩
      | ow d' =>
        obtain ⟨p', o', q1, q2, q3, q4⟩ := sj
        refine ⟨p', o', q1, q2, ?_, q4.mono sm⟩
        rw [upd_ne fun z => n j ⟨d', g, by rw [q1, z]⟩]
        exact q3
  · rw [upd_ne (ne_of_none g hB)]
    exact h.frz b x q g m
  · rw [upd_ne (ne_of_none g hf)]
    exact a.fr b x q g m
/-- toFz: from a value to data that never changes -/
theorem Post.toFz {r : RV} {d : D} {ρ2 : Rho} (h0 : Rel K B F H ρ σ) (a : Post K B σ F H ρ F1 H1 ρ1) (q : RvOk K F1 H1 ρ1 σ r v) (f : Fresh H r v) (e : toFz ρ1 r = .ok d ρ2) : ∃ F2, Post K B σ F H ρ F2 H1 ρ2 ∧ Rp K F2 d v := by
  cases r with
  | fz d' =>
    cases e
    exact ⟨F1, a, q⟩
  | ow d' =>
    cases e
    obtain ⟨p, o, rfl, h1, h2, h3, h4⟩ := q
    have sm : Same F1 (upd F1 p o) := fun b x q => by
      rw [upd_ne (ne_of_none q h2)]
      exact q
    exact ⟨upd F1 p o, a.freezeNew h0 h1 h2 h4 (f p rfl), rp_of upd_same (h3.mono sm)⟩
  | bor i =>
    have e : (match ρ1[i]? with | some (.fz d) => R.ok d ρ1 | some (.ow d) => .ok d (ρ1.set i (.fz d)) | _ => .fail) = .ok d ρ2 := e
    have s := a.rel.sl i
    rw [q.1] at s
    split at e
    · rename_i d' hd
      cases e
      rw [hd] at s
      obtain ⟨v', e1, e2⟩ := s
      cases e1
      exact ⟨F1, a, e2⟩
    · rename_i d' hd
      cases e
      obtain ⟨p, o, g1, g2, g3, g4, g5, g6⟩ := a.rel.freeze hd
      rw [q.1] at g1
      cases g1
      exact ⟨_, a.trans g5, g6⟩
    · cases e
/-- a new object stands in the heap; nothing else has changed -/
theorem Post.new {p : Addr} {o : HO} (h : Rel K B F H ρ σ) (hp : H p = none) : Post K B σ F H ρ F (upd H p o) ρ := by
  have sm : Same H (upd H p o) := fun b x q => by
    rw [upd_ne (ne_of_none q hp)]
    exact q
  refine ⟨Same.refl F, ⟨h.same.trans sm, h.len, fun j => ?_, h.dis, h.sameB, fun b x q n => sm _ _ (h.pre b x q n), fun b x q => ?_, h.frz, h.loc, h.par, h.arg⟩, fun b x q _ => sm b x q, fun b x q => ⟨x, sm b x q⟩, fun _ _ z => z, fun _ _ q _ _ => q, fun _ l => l⟩
  · have sj := h.sl j
    cases g : ρ[j]? with
    | none => trivial
    | some w =>
      rw [g] at sj
      cases w with
      | un => trivial
      | fz d' => exact sj
      | ow d' =>
        obtain ⟨p', o', q1, q2, q3, q4⟩ := sj
        exact ⟨p', o', q1, sm _ _ q2, q3, q4⟩
  · obtain ⟨y, z⟩ := h.dom b x q
    exact ⟨y, sm _ _ z⟩
theorem Rel.newFree (h : Rel K B F H ρ σ) {p : Addr} (hp : H p = none) : F p = none ∧ ∀ i, ¬ OwnAt ρ σ i p := by
  refine ⟨h.same.free hp, fun i ⟨d, g1, g2⟩ => ?_⟩
  have s := h.sl i
  rw [g1] at s
  obtain ⟨p', o', q1, q2, _⟩ := s
  rw [g2] at q1
  cases q1
  rw [hp] at q2
  cases q2
/-- a new list (dict) as a value -/
theorem RvOk.newOw {p : Addr} {o : HO} (h : Rel K B F H ρ σ) (hp : H p = none) (q : RpO K F d o) : RvOk K F (upd H p o) ρ σ (.ow d) (.ref p) :=
  ⟨p, o, rfl, upd_same, (h.newFree hp).1, q, (h.newFree hp).2⟩
/-- a new tuple: it never changes -/
theorem Post.newTup {p : Addr} {vs : List V} {l : List D} (h : Rel K B F H ρ σ) (hp : H p = none) (q : RpL K F l vs) : Post K B σ F H ρ (upd F p (.tup vs)) (upd H p (.tup vs)) ρ ∧ Rp K (upd F p (.tup vs)) (.tup l) (.ref p) := by
  have sm : Same F (upd F p (.tup vs)) := fun b x q => by
    rw [upd_ne (ne_of_none q (h.newFree hp).1)]
    exact q
  exact ⟨(Post.new h hp).freezeNew h upd_same (h.newFree hp).1 (h.newFree hp).2 hp, p, vs, rfl, upd_same, RpL.mono sm l vs q⟩
end
end PV

/-! PvS1: judgements; the operators by plain data. -/
namespace PV
open PySem L2
abbrev St := L2.St
def GE (X : Cx) (e : Expr) (σ : L2.St) (H : Hp) (Q : VK) : Prop := ∀ pins s, Inv X pins σ H s → wpAny (model X.prog X.w) X.A (eval e X.env) (EP X pins σ Q) X.xe s
def GT (X : Cx) (e : Expr) (σ : L2.St) (H : Hp) (Q : Bool → Hp → Prop) : Prop := ∀ pins s, Inv X pins σ H s → wpAny (model X.prog X.w) X.A (isTrue e X.env (eval e X.env)) (TP X pins σ Q) X.xe s
def GW (X : Cx) (e : Expr) (σ : L2.St) (H : Hp) (Q : Bool → Hp → Prop) : Prop := ∀ whole pins s, Inv X pins σ H s → wpAny (model X.prog X.w) X.A (isTrue e X.env whole) (TP X pins σ Q) X.xe s
def GA (X : Cx) (es : List Expr) (σ : L2.St) (H : Hp) (Q : List V → Hp → Prop) : Prop := ∀ pos pins s, Inv X pins σ H s → wpAny (model X.prog X.w) X.A (spliced (backTo pos (starEach es X.env))) (AP X pins σ Q) X.xe s
def GI (X : Cx) (tg iter : Expr) (σ : L2.St) (H : Hp) (R : It → Hp → Prop) : Prop := ∀ pins s, Inv X pins σ H s →
    wpAny (model X.prog X.w) X.A (eval iter X.env) (fun v s1 => wpAny (model X.prog X.w) X.A (pyIter v) (PIE X pins σ tg R) X.xe s1) X.xe s
section
variable {X : Cx} {e : Expr} {σ : L2.St} {H : Hp} {Q Q' : VK}
theorem pe_ge : PE X e (GE X e) := ⟨fun pins s σ H Q I h => h pins s I⟩
theorem pt_gt : PT X e (GT X e) := ⟨fun pins s σ H Q I h => h pins s I⟩
theorem pw_gw : PW X e (GW X e) := ⟨fun w pins s σ H Q I h => h w pins s I⟩
theorem pa_ga {es : List Expr} : PA X es (GA X es) := ⟨fun pos pins s σ H Q I h => h pos pins s I⟩
theorem pi_gi {tg iter : Expr} : PI X tg iter (GI X tg iter) := ⟨fun pins s σ H R I h => h pins s I⟩
theorem ge_of {t : TE} (h : PE X e t) (q : t σ H Q) : GE X e σ H Q := fun pins s I => h.run pins s σ H Q I q
theorem gt_of {t : TT} {Q : Bool → Hp → Prop} (h : PT X e t) (q : t σ H Q) : GT X e σ H Q := fun pins s I => h.run pins s σ H Q I q
theorem gw_of {t : TT} {Q : Bool → Hp → Prop} (h : PW X e t) (q : t σ H Q) : GW X e σ H Q := fun w pins s I => h.run w pins s σ H Q I q
theorem ga_of {es : List Expr} {t : TA} {Q : List V → Hp → Prop} (h : PA X es t) (q : t σ H Q) : GA X es σ H Q := fun pos pins s I => h.run pos pins s σ H Q I q
theorem gi_of {tg iter : Expr} {t : TI} {R : It → Hp → Prop} (h : PI X tg iter t) (q : t σ H R) : GI X tg iter σ H R := fun pins s I => h.run pins s σ H R I q
theorem GE.imp (h : GE X e σ H Q) (k : ∀ v H', Q v H' → Q' v H') : GE X e σ H Q' := fun pins s I => thn (h pins s I) fun u s' ⟨v, H', I', r, q⟩ => ⟨v, H', I', r, k v H' q⟩
end
/-! ### a piece of syntax does what its code does -/
def SE (B : Bs) (X : Cx) (e : Expr) (m : Rho → R RV) : Prop := ∀ F H ρ σ Q, Rel X.K B F H ρ σ → (∃ r ρ', m ρ = .ok r ρ' ∧ ∀ v F' H', Post X.K B σ F H ρ F' H' ρ' → RvOk X.K F' H' ρ' σ r v → Fresh H r v → Q v H') → GE X e σ H Q
def SD (B : Bs) (X : Cx) (e : Expr) (m : Rho → R D) : Prop := ∀ F H ρ σ Q, Rel X.K B F H ρ σ → (∃ d ρ', m ρ = .ok d ρ' ∧ ∀ v F' H', Post X.K B σ F H ρ F' H' ρ' → Rp X.K F' d v → Q v H') → GE X e σ H Q
def SL (B : Bs) (X : Cx) (es : List Expr) (m : Rho → R (List D)) : Prop := ∀ F H ρ σ Q, Rel X.K B F H ρ σ → (∃ l ρ', m ρ = .ok l ρ' ∧ ∀ vs F' H', Post X.K B σ F H ρ F' H' ρ' → RpL X.K F' l vs → Q vs H') → GA X es σ H Q
def ST (B : Bs) (X : Cx) (e : Expr) (m : Rho → R Bool) : Prop := ∀ F H ρ σ Q, Rel X.K B F H ρ σ → (∃ b ρ', m ρ = .ok b ρ' ∧ ∀ F' H', Post X.K B σ F H ρ F' H' ρ' → Q b H') → GT X e σ H Q
def SW (B : Bs) (X : Cx) (e : Expr) (m : Rho → R Bool) : Prop := ∀ F H ρ σ Q, Rel X.K B F H ρ σ → (∃ b ρ', m ρ = .ok b ρ' ∧ ∀ F' H', Post X.K B σ F H ρ F' H' ρ' → Q b H') → GW X e σ H Q
/-! ### taking evaluations apart -/
theorem bind_ok {α β : Type} {r : R α} {f : α → Rho → R β} {b : β} {ρ' : Rho} (h : r.bind f = .ok b ρ') : ∃ a ρ1, r = .ok a ρ1 ∧ f a ρ1 = .ok b ρ' := by
  cases r with
  | ok a ρ1 => exact ⟨a, ρ1, rfl, h⟩
  | fail => cases h
theorem ofO_ok {α : Type} {o : Option α} {ρ ρ' : Rho} {a : α} (h : ofO o ρ = .ok a ρ') : o = some a ∧ ρ' = ρ := by
  cases o with
  | none => cases h
  | some b => cases h; exact ⟨rfl, rfl⟩
theorem ob2_some {α : Type} {a b : Option D} {f : D → D → Option α} {c : α} (h : ob2 a b f = some c) : ∃ x y, a = some x ∧ b = some y ∧ f x y = some c := by
  cases a with
  | none => cases h
  | some x =>
    cases b with
    | none => cases h
    | some y => exact ⟨x, y, rfl, rfl, h⟩
theorem obind_some {α β : Type} {a : Option α} {f : α → Option β} {c : β} (h : a.bind f = some c) : ∃ x, a = some x ∧ f x = some c := by
  cases a with
  | none => cases h
  | some x => exact ⟨x, rfl, h⟩
theorem omap_some {α β : Type} {a : Option α} {f : α → β} {c : β} (h : a.map f = some c) : ∃ x, a = some x ∧ f x = c := by
  cases a with
  | none => cases h
  | some x => exact ⟨x, rfl, Option.some.inj h⟩
section
variable {B : Bs} {X : Cx} {e a b c : Expr} {pos : Pos}
theorem SE.sd {m : Rho → R RV} (h : SE B X e m) : SD B X e (fun ρ => (m ρ).bind fun r ρ => toFz ρ r) := by
  intro F H ρ σ Q hr ⟨d, ρ', hm, k⟩
  obtain ⟨r, ρ1, h1, h2⟩ := bind_ok hm
  refine h F H ρ σ Q hr ⟨r, ρ1, h1, fun v F' H' P q f => ?_⟩
  obtain ⟨F2, P2, q2⟩ := P.toFz hr q f h2
  exact k v F2 H' P2 q2
/-- two values, one after the other -/
theorem se2 {ma mb : Rho → R RV} (ha : SE B X a ma) (hb : SE B X b mb) {F H : Hp} {ρ ρ1 ρ2 : Rho} {σ : L2.St} {x y : RV} {G : V → V → Hp → Prop} (hr : Rel X.K B F H ρ σ) (h1 : ma ρ = .ok x ρ1) (h2 : mb ρ1 = .ok y ρ2)
    (k : ∀ vx vy F2 H2, Post X.K B σ F H ρ F2 H2 ρ2 → RvOk X.K F2 H2 ρ2 σ x vx → RvOk X.K F2 H2 ρ2 σ y vy → G vx vy H2) : GE X a σ H (fun vx H1 => GE X b σ H1 (fun vy H2 => G vx vy H2)) := by
  refine ha F H ρ σ _ hr ⟨x, ρ1, h1, fun vx F1 H1 P1 q1 _ => ?_⟩
  refine hb F1 H1 ρ1 σ _ P1.rel ⟨y, ρ2, h2, fun vy F2 H2 P2 q2 _ => ?_⟩
  exact k vx vy F2 H2 (P1.trans P2) (q1.step P2) q2
/-- behind a step that started at H: new things of the last step are new for H too -/
theorem Fresh.back {K : PySem.W.Frag} {F H F1 H1 : Hp} {ρ ρ1 : Rho} {σ : L2.St} {r : RV} {v : V} (P : Post K B σ F H ρ F1 H1 ρ1) (f : Fresh H1 r v) : Fresh H r v := by
  cases r with
  | fz _ => trivial
  | bor _ => trivial
  | ow d =>
    intro p e
    have := f p e
    cases q : H p with
    | none => rfl
    | some o =>
      obtain ⟨o', z⟩ := P.dom p o q
      rw [this] at z
      cases z
/-! ### constants, names -/
variable {np : Nat} {cf : Nat → List Sl → CRes}
theorem se_c {d : D} {v : V} (h : PE X e (tC v)) (q : ∀ F, Rp X.K F d v) : SE B X e (evE np cf (.con d)) := by
  intro F H ρ σ Q hr ⟨r, ρ', hm, k⟩
  cases hm
  exact ge_of h (k v F H (Post.refl hr) (q F) trivial)
theorem se_int {i j} : SE B X (.Constant (.int i) j pos) (evE np cf (.con (.int i))) := se_c pe_int fun _ => rfl
theorem se_bl {i j} : SE B X (.Constant (.bool i) j pos) (evE np cf (.con (.bl i))) := se_c pe_bl fun _ => rfl
theorem se_non {j} : SE B X (.Constant .none j pos) (evE np cf (.con .non)) := se_c pe_non fun _ => rfl
theorem se_str {x j} : SE B X (.Constant (.str x) j pos) (evE np cf (.con (.str x))) := se_c pe_str fun _ => rfl
theorem se_slot {i : Nat} {x : Str} (hN : X.N[i]? = some x) (hv : Vis X.env.scope x) (hd : (x == ("__debug__" : Str)) = false) (hcd : (x == ("__classdict__" : Str)) = false) : SE B X (.Name x pos) (evE np cf (.slot i)) := by
  intro F H ρ σ Q hr ⟨r, ρ', hm, k⟩
  refine ge_of (pe_var hN hv hd hcd) ?_
  have hm : (match ρ[i]? with | some (.fz d) => R.ok (RV.fz d) ρ | some (.ow _) => .ok (.bor i) ρ | _ => .fail) = .ok r ρ' := hm
  have s := hr.sl i
  split at hm
  · rename_i d hd
    cases hm
    rw [hd] at s
    obtain ⟨v, e1, e2⟩ := s
    exact ⟨v, e1, k v F H (Post.refl hr) e2 trivial⟩
  · rename_i d hd
    cases hm
    rw [hd] at s
    obtain ⟨p, o, e1, e2, e3, e4⟩ := s
    exact ⟨.ref p, e1, k _ F H (Post.refl hr) ⟨e1, d, .inr hd⟩ trivial⟩
  · cases hm
end
/-! ### operators -/
def OpOk (X : Cx) (f : Value → Value → Sem Value) (d1 d2 : D) (r : RV) : Prop := ∃ r0 : R2, OpR X f r0 ∧ ∀ (B : Bs) (σ : L2.St) (x y : V) (F H : Hp) (ρ : Rho) (Q : VK), Rel X.K B F H ρ σ → Ct X.K F H d1 x → Ct X.K F H d2 y →
  (∀ v F' H', Post X.K B σ F H ρ F' H' ρ → RvOk X.K F' H' ρ σ r v → Fresh H r v → Q v H') → r0 x y H Q
theorem maxLen_le {n : Nat} (h : n ≤ maxLen) : n ≤ sizeLine := by
  rw [sizeLine_eq]
  unfold maxLen at h
  omega
theorem op_powW {X : Cx} : OpR X (binaryOp .Pow) (rI (fun i j => 0 ≤ j ∧ (Builtin.Int.intBits i : Int) * j ≤ 2 ^ 27) fun i j => .int (i ^ j.toNat)) := opI fun _ _ _ _ _ _ _ hc q => PyProof.Rows.pow_int hc.1 hc.2 q
section
variable {X : Cx}
theorem opok_int {f : Value → Value → Sem Value} {C : Int → Int → Prop} {g : Int → Int → Int} {i j : Int} (h : OpR X f (rI C fun i j => .int (g i j))) (c : C i j) : OpOk X f (.int i) (.int j) (.fz (.int (g i j))) := by
  refine ⟨_, h, fun B σ x y F H ρ Q hr hx hy k => ?_⟩
  exact ⟨i, j, hx.int, hy.int, c, k _ F H (Post.refl hr) rfl trivial⟩
theorem opok_int0 {f : Value → Value → Sem Value} {g : Int → Int → Int} {i j : Int} (h : OpR X f (rI0 fun i j => .int (g i j))) : OpOk X f (.int i) (.int j) (.fz (.int (g i j))) := by
  refine ⟨_, h, fun B σ x y F H ρ Q hr hx hy k => ?_⟩
  exact ⟨i, j, hx.int, hy.int, k _ F H (Post.refl hr) rfl trivial⟩
theorem rpl_flat {K : PySem.W.Frag} {F : Hp} {l : List D} {vs : List V} (h : RpL K F l vs) : ∀ n : Nat, RpL K F (List.replicate n l).flatten (List.replicate n vs).flatten
  | 0 => rfl
  | n + 1 => by
    rw [List.replicate_succ, List.replicate_succ, List.flatten_cons, List.flatten_cons]
    exact h.append (rpl_flat h n)
theorem bin_ok : ∀ (op : Operator) (d1 d2 : D) (r : RV), binD op d1 d2 = some r → OpOk X (binaryOp op) d1 d2 r := by
  intro op d1 d2 r h
  unfold binD at h
  split at h
  · cases h
    exact opok_int0 op_add
  · cases h
    exact opok_int0 op_sub
  · split at h
    · rename_i i j hc
      cases h
      refine opok_int op_mul ?_
      unfold mulOk at hc
      rcases Bool.or_eq_true_iff.mp hc with hc | hc <;> have hc := of_decide_eq_true hc
      · exact .inl (by omega)
      · exact .inr (by omega)
    · cases h
  · split at h
    · rename_i i j hc
      cases h
      unfold divOk at hc
      have hc := Bool.and_eq_true_iff.mp hc
      exact opok_int op_fdivW ⟨of_decide_eq_true hc.1, of_decide_eq_true hc.2⟩
    · cases h
  · split at h
    · rename_i i j hc
      cases h
      exact opok_int op_mod hc
    · cases h
  · split at h
    · rename_i i j hc
      cases h
      unfold powOk at hc
      have hc := Bool.and_eq_true_iff.mp hc
      exact opok_int op_powW ⟨of_decide_eq_true hc.1, of_decide_eq_true hc.2⟩
    · cases h
  · split at h
    · rename_i x y hc
      cases h
      refine ⟨_, op_add_str, fun B σ x y F H ρ Q hr hx hy k => ?_⟩
      exact ⟨_, _, hx.str, hy.str, maxLen_le hc, k _ F H (Post.refl hr) rfl trivial⟩
    · cases h
  · split at h
    · rename_i x y hc
      cases h
      refine ⟨_, op_cat, fun B σ v w F H ρ Q hr hx hy k => ?_⟩
      obtain ⟨p, vs, rfl, h1, h2⟩ := hx.lst hr.same
      obtain ⟨q, ws, rfl, h3, h4⟩ := hy.lst hr.same
      refine ⟨p, q, vs, ws, rfl, rfl, h1, h3, by rw [h2.length, h4.length]; exact maxLen_le hc, fun t ht => ?_⟩
      exact k _ F _ (Post.new hr ht) (RvOk.newOw hr ht ⟨_, rfl, h2.append h4⟩) (fun p' e => by cases e; exact ht)
    · cases h
  · split at h
    · rename_i x y hc
      cases h
      refine ⟨_, op_catA, fun B σ v w F H ρ Q hr hx hy k => ?_⟩
      obtain ⟨p, vs, rfl, h1, h2⟩ := hx.tup hr.same
      obtain ⟨q, ws, rfl, h3, h4⟩ := hy.tup hr.same
      have g1 : Rp X.K F (.tup x) (.ref p) := by
        rcases hx with hx | ⟨_, _, _, _, hx⟩
        · exact hx
        · exact hx.elim
      have g2 : Rp X.K F (.tup y) (.ref q) := by
        rcases hy with hy | ⟨_, _, _, _, hy⟩
        · exact hy
        · exact hy.elim
      refine ⟨p, q, vs, ws, rfl, rfl, SqT.of h1, SqT.of h3, by rw [h2.length, h4.length]; exact maxLen_le hc, fun e => ?_, fun e e' => ?_, fun _ _ t ht => ?_⟩
      · subst e
        have : x = [] := List.eq_nil_of_length_eq_zero h2.length.symm
        subst this
        exact k _ F H (Post.refl hr) g2 trivial
      · subst e'
        have : y = [] := List.eq_nil_of_length_eq_zero h4.length.symm
        subst this
        refine k _ F H (Post.refl hr) ?_ trivial
        rw [List.append_nil]
        exact g1
      · obtain ⟨P, q⟩ := Post.newTup hr ht (h2.append h4)
        exact k _ _ _ P q trivial
    · cases h
  · split at h
    · rename_i x kk hc
      cases h
      refine ⟨_, op_rep, fun B σ v w F H ρ Q hr hx hy k => ?_⟩
      obtain ⟨p, vs, rfl, h1, h2⟩ := hx.lst hr.same
      obtain ⟨c1, c2, c3⟩ := hc
      unfold maxLen at c2
      refine ⟨p, kk, vs, rfl, hy.int, h1, by omega, by omega, by rw [h2.length]; exact maxLen_le c3, fun t ht => ?_⟩
      exact k _ F _ (Post.new hr ht) (RvOk.newOw hr ht ⟨_, rfl, rpl_flat h2 _⟩) (fun p' e => by cases e; exact ht)
    · cases h
  · cases h
end
section
variable {B : Bs} {X : Cx} {e a b c : Expr} {pos : Pos} {np : Nat} {cf : Nat → List Sl → CRes} {ca cb cc : C}
theorem se_bin {op : Operator} (ha : SE B X a (evE np cf ca)) (hb : SE B X b (evE np cf cb)) : SE B X (.BinOp a op b pos) (evE np cf (.bin op ca cb)) := by
  intro F H ρ σ Q hr ⟨r, ρ', hm, k⟩
  obtain ⟨x, ρ1, h1, hm⟩ := bind_ok hm
  obtain ⟨y, ρ2, h2, hm⟩ := bind_ok hm
  obtain ⟨ho, rfl⟩ := ofO_ok hm
  obtain ⟨d1, d2, e1, e2, e3⟩ := ob2_some ho
  obtain ⟨r0, ok, run⟩ := bin_ok (X := X) op d1 d2 r e3
  refine ge_of (pe_op ok pe_ge pe_ge) (se2 ha hb hr h1 h2 fun vx vy F2 H2 P qx qy => ?_)
  exact run B σ vx vy F2 H2 ρ' Q P.rel (der_ct P.rel qx e1) (der_ct P.rel qy e2) fun v F' H' P' q f => k v F' H' (P.trans P') q (f.back P)
end
end PV

/-! PvS2: comparisons, tests, displays, items, slices, built-ins. -/
namespace PV
open PySem L2
/-! ### comparisons -/
def CmpOk (X : Cx) (op : CmpOp) (d1 d2 : D) (b : Bool) : Prop := ∃ r0 : R2, OpR X (compareOp op) r0 ∧ ∀ (B : Bs) (σ : L2.St) (x y : V) (F H : Hp) (ρ : Rho) (Q : VK), Rel X.K B F H ρ σ → Ct X.K F H d1 x → Ct X.K F H d2 y → Q (.bl b) H → r0 x y H Q
section
variable {X : Cx}
theorem cmp_int {op : CmpOp} {g : Int → Int → Bool} {i j : Int} (h : OpR X (compareOp op) (rI0 fun i j => .bl (g i j))) : CmpOk X op (.int i) (.int j) (g i j) :=
  ⟨_, h, fun B σ x y F H ρ Q hr hx hy k => ⟨i, j, hx.int, hy.int, k⟩⟩
theorem eq_parts {d e : D} {b : Bool} (h : eqD d e = some b) : d.plain = true ∧ SeqAt.shaped d.py = true ∧ e.plain = true ∧ SeqAt.shaped e.py = true ∧ b = PyData.eqv d.py e.py := by
  unfold eqD at h
  split at h
  · rename_i hc
    have hc := Bool.and_eq_true_iff.mp hc
    have h1 := Bool.and_eq_true_iff.mp hc.1
    have h2 := Bool.and_eq_true_iff.mp hc.2
    exact ⟨h1.1, h1.2, h2.1, h2.2, (Option.some.inj h).symm⟩
  · cases h
theorem pys_any (f : PyData → Bool) : ∀ l : List D, (D.pys l).any f = l.any fun z => f z.py
  | [] => rfl
  | d :: l => by
    show (f d.py || (D.pys l).any f) = _
    rw [pys_any f l]
    rfl
theorem in_ok (hu : X.A.units + 65 < cLine) {d e : D} {b : Bool} (h : inD d e = some b) : CmpOk X .In d e b ∧ CmpOk X .NotIn d e (!b) := by
  unfold inD at h
  split at h
  · rename_i z
    cases d with
    | str s =>
      have h : (match s.cps.toList with | [c] => some (decide (c ∈ z.cps.toList)) | _ => none) = some b := h
      cases hs : s.cps.toList with
      | nil => rw [hs] at h; cases h
      | cons c r =>
        cases r with
        | cons _ _ => rw [hs] at h; cases h
        | nil =>
          rw [hs] at h
          cases h
          have es : s = ⟨#[c]⟩ := by
            cases s
            congr
            exact Array.ext' hs
          subst es
          exact ⟨⟨_, op_in_sign, fun B σ x y F H ρ Q hr hx hy k => ⟨_, _, hx.str, hy.str, k⟩⟩, ⟨_, op_notIn_sign, fun B σ x y F H ρ Q hr hx hy k => ⟨_, _, hx.str, hy.str, k⟩⟩⟩
    | _ => cases h
  · split at h
    · rename_i l hc
      cases h
      have hc := Bool.and_eq_true_iff.mp hc
      have h1 := Bool.and_eq_true_iff.mp hc.1
      have h2 := Bool.and_eq_true_iff.mp hc.2
      refine ⟨⟨_, op_inD hu, fun B σ x y F H ρ Q hr hx hy k => ⟨_, D.pys l, hx.dp hr.same h1.1, hy.dp hr.same h2.1, h1.2, h2.2, ?_⟩⟩, ⟨_, op_notInD hu, fun B σ x y F H ρ Q hr hx hy k => ⟨_, D.pys l, hx.dp hr.same h1.1, hy.dp hr.same h2.1, h1.2, h2.2, ?_⟩⟩⟩
      · rw [pys_any]; exact k
      · rw [pys_any]; exact k
    · cases h
  · cases h
theorem is_ok {d e : D} {b : Bool} (h : isD d e = some b) : CmpOk X .Is d e b ∧ CmpOk X .IsNot d e (!b) := by
  unfold isD at h
  split at h
  · cases h
    exact ⟨⟨_, op_isBl, fun B σ x y F H ρ Q hr hx hy k => ⟨_, _, hx.bl, hy.bl, k⟩⟩, ⟨_, op_notBl, fun B σ x y F H ρ Q hr hx hy k => ⟨_, _, hx.bl, hy.bl, k⟩⟩⟩
  · cases h
theorem cmp_ok (hu : X.A.units + 65 < cLine) {op : CmpOp} {d e : D} {b : Bool} (h : cmpD op d e = some b) : CmpOk X op d e b := by
  unfold cmpD at h
  split at h
  · obtain ⟨h1, h2, h3, h4, rfl⟩ := eq_parts h
    exact ⟨_, op_eqD (by omega), fun B σ x y F H ρ Q hr hx hy k => ⟨_, _, hx.dp hr.same h1, hy.dp hr.same h3, h2, h4, k⟩⟩
  · obtain ⟨b', h', rfl⟩ := omap_some h
    obtain ⟨h1, h2, h3, h4, rfl⟩ := eq_parts h'
    exact ⟨_, op_neD (by omega), fun B σ x y F H ρ Q hr hx hy k => ⟨_, _, hx.dp hr.same h1, hy.dp hr.same h3, h2, h4, k⟩⟩
  · cases h; exact cmp_int op_lt
  · cases h; exact cmp_int op_le
  · cases h; exact cmp_int op_gt
  · cases h; exact cmp_int op_ge
  · exact (in_ok hu h).1
  · obtain ⟨b', h', rfl⟩ := omap_some h
    exact (in_ok hu h').2
  · exact (is_ok h).1
  · obtain ⟨b', h', rfl⟩ := omap_some h
    exact (is_ok h').2
  · cases h
end
section
variable {B : Bs} {X : Cx} {e a b c : Expr} {pos : Pos} {np : Nat} {cf : Nat → List Sl → CRes} {ca cb cc : C}
theorem se_cmp {op : CmpOp} (hu : X.A.units + 65 < cLine) (ha : SE B X a (evE np cf ca)) (hb : SE B X b (evE np cf cb)) (hm : behindInMarks op b = false) : SE B X (.Compare a [op] [b] pos) (evE np cf (.cmp op ca cb)) := by
  intro F H ρ σ Q hr ⟨r, ρ', hm', k⟩
  obtain ⟨x, ρ1, h1, m1⟩ := bind_ok hm'
  obtain ⟨y, ρ2, h2, m2⟩ := bind_ok m1
  obtain ⟨z, ρ3, h3, m3⟩ := bind_ok m2
  obtain ⟨ho, e0⟩ := ofO_ok h3
  subst e0
  cases m3
  obtain ⟨d1, d2, e1, e2, e3⟩ := ob2_some ho
  obtain ⟨r0, ok, run⟩ := cmp_ok (X := X) hu e3
  refine ge_of (pe_cmpR ok pe_ge pe_ge hm) (se2 ha hb hr h1 h2 fun vx vy F2 H2 P qx qy => ?_)
  exact run B σ vx vy F2 H2 _ Q P.rel (der_ct P.rel qx e1) (der_ct P.rel qy e2) (k _ F2 H2 P rfl trivial)
theorem st_cmp {op : CmpOp} (hu : X.A.units + 65 < cLine) (ha : SE B X a (evE np cf ca)) (hb : SE B X b (evE np cf cb)) (hm : behindInMarks op b = false) : ST B X (.Compare a [op] [b] pos) (evT np cf (.tVal (.cmp op ca cb))) := by
  intro F H ρ σ Q hr ⟨r, ρ', hm', k⟩
  obtain ⟨w, ρ0, h0, m0⟩ := bind_ok hm'
  obtain ⟨x, ρ1, h1, m1⟩ := bind_ok h0
  obtain ⟨y, ρ2, h2, m2⟩ := bind_ok m1
  obtain ⟨z, ρ3, h3, m3⟩ := bind_ok m2
  obtain ⟨ho, e0⟩ := ofO_ok h3
  subst e0
  cases m3
  cases m0
  obtain ⟨d1, d2, e1, e2, e3⟩ := ob2_some ho
  obtain ⟨r0, ok, run⟩ := cmp_ok (X := X) hu e3
  refine gt_of (pt_cmpR ok pe_ge pe_ge hm) (se2 ha hb hr h1 h2 fun vx vy F2 H2 P qx qy => ?_)
  exact run B σ vx vy F2 H2 _ _ P.rel (der_ct P.rel qx e1) (der_ct P.rel qy e2) ⟨_, rfl, k F2 H2 P⟩
/-- a < b < c -/
theorem chain_core {op op' : CmpOp} (hu : X.A.units + 65 < cLine) (ha : SE B X a (evE np cf ca)) (hb : SE B X b (evE np cf cb)) (hc : SE B X c (evE np cf cc)) {F H : Hp} {ρ ρ' : Rho} {σ : L2.St} {r : RV} (hr : Rel X.K B F H ρ σ) (hm : evE np cf (.chain op op' ca cb cc) ρ = .ok r ρ')
    {G : Bool → Hp → Prop} (k : ∀ b F' H', r = .fz (.bl b) → Post X.K B σ F H ρ F' H' ρ' → G b H') : ∃ r0 r1 : R2, OpR X (compareOp op) r0 ∧ OpR X (compareOp op') r1 ∧
      tChain r0 r1 (GE X a) (GE X b) (GE X c) σ H (fun v H' => ∃ k, v = .bl k ∧ G k H') := by
  obtain ⟨x, ρ1, h1, m1⟩ := bind_ok hm
  obtain ⟨y, ρ2, h2, m2⟩ := bind_ok m1
  obtain ⟨z, ρ3, h3, m3⟩ := bind_ok m2
  obtain ⟨ho, e0⟩ := ofO_ok h3
  subst e0
  obtain ⟨d1, d2, e1, e2, e3⟩ := ob2_some ho
  obtain ⟨r0, ok, run⟩ := cmp_ok (X := X) hu e3
  cases z with
  | false =>
    cases m3
    refine ⟨r0, fun _ _ _ _ => False, ok, fun _ _ _ _ _ _ _ _ _ _ _ _ z => z.elim, se2 ha hb hr h1 h2 fun vx vy F2 H2 P qx qy => ?_⟩
    exact run B σ vx vy F2 H2 _ _ P.rel (der_ct P.rel qx e1) (der_ct P.rel qy e2) ⟨false, rfl, ⟨_, rfl, k _ F2 H2 rfl P⟩⟩
  | true =>
    obtain ⟨w, ρ4, h4, m4⟩ := bind_ok m3
    obtain ⟨b5, ρ5, h5, m5⟩ := bind_ok m4
    obtain ⟨ho', e0'⟩ := ofO_ok h5
    subst e0'
    cases m5
    obtain ⟨d3, d4, e4, e5, e6⟩ := ob2_some ho'
    obtain ⟨r1, ok', run'⟩ := cmp_ok (X := X) hu e6
    refine ⟨r0, r1, ok, ok', se2 ha hb hr h1 h2 fun vx vy F2 H2 P qx qy => ?_⟩
    refine run B σ vx vy F2 H2 _ _ P.rel (der_ct P.rel qx e1) (der_ct P.rel qy e2) ⟨true, rfl, ?_⟩
    rw [if_pos rfl]
    refine hc F2 H2 _ σ _ P.rel ⟨w, _, h4, fun vz F3 H3 P3 qz _ => ?_⟩
    exact run' B σ vy vz F3 H3 _ _ P3.rel (der_ct P3.rel (qy.step P3) e4) (der_ct P3.rel qz e5) ⟨_, rfl, k _ F3 H3 rfl (P.trans P3)⟩
theorem se_chain {op op' : CmpOp} (hu : X.A.units + 65 < cLine) (ha : SE B X a (evE np cf ca)) (hb : SE B X b (evE np cf cb)) (hc : SE B X c (evE np cf cc))
    (hl : lastMarks [op, op'] [b, c] = false) : SE B X (.Compare a [op, op'] [b, c] pos) (evE np cf (.chain op op' ca cb cc)) := by
  intro F H ρ σ Q hr ⟨r, ρ', hm, k⟩
  obtain ⟨r0, r1, o0, o1, t⟩ := chain_core hu ha hb hc hr hm (G := fun b H' => Q (.bl b) H') fun b F' H' e P => by
    subst e
    exact k _ F' H' P rfl trivial
  refine (ge_of (pe_chain o0 o1 pe_ge pe_ge pe_ge hl) t).imp fun v H' ⟨b, e, q⟩ => ?_
  subst e
  exact q
theorem st_chain {op op' : CmpOp} (hu : X.A.units + 65 < cLine) (ha : SE B X a (evE np cf ca)) (hb : SE B X b (evE np cf cb)) (hc : SE B X c (evE np cf cc))
    (hl : lastMarks [op, op'] [b, c] = false) : ST B X (.Compare a [op, op'] [b, c] pos) (evT np cf (.tVal (.chain op op' ca cb cc))) := by
  intro F H ρ σ Q hr ⟨r, ρ', hm, k⟩
  obtain ⟨w, ρ0, h0, hm⟩ := bind_ok hm
  obtain ⟨r0, r1, o0, o1, t⟩ := chain_core hu ha hb hc hr h0 (G := fun b H' => Q b H') fun b F' H' e P => by
    subst e
    cases hm
    exact k F' H' P
  exact gt_of (pt_chain o0 o1 pe_ge pe_ge pe_ge hl) t
theorem Ct.isNon {K : PySem.W.Frag} {F H : Hp} {d : D} {v : V} (h : Ct K F H d v) : decide (v = V.non) = d.isNon := by
  rcases h with h | ⟨p, o, rfl, _, h⟩
  · cases d with
    | non => rw [show v = V.non from h]; rfl
    | bl _ => rw [show v = V.bl _ from h]; rfl
    | int _ => rw [show v = V.int _ from h]; rfl
    | str _ => rw [show v = V.str _ from h]; rfl
    | lst _ => obtain ⟨a, _, rfl, _⟩ := h; rfl
    | tup _ => obtain ⟨a, _, rfl, _⟩ := h; rfl
    | dct _ _ => obtain ⟨a, _, rfl, _⟩ := h; rfl
    | dcT _ _ => obtain ⟨a, _, rfl, _⟩ := h; rfl
    | obj _ _ => exact h.elim
    | scr _ => obtain ⟨a, rfl, _⟩ := h; rfl
  · cases d with
    | non => exact h.elim
    | bl _ => rfl
    | int _ => rfl
    | str _ => rfl
    | lst _ => rfl
    | tup _ => rfl
    | dct _ _ => rfl
    | dcT _ _ => rfl
    | obj _ _ => rfl
    | scr _ => rfl
theorem isN_core (ha : SE B X a (evE np cf ca)) {F H : Hp} {ρ ρ1 ρ' : Rho} {σ : L2.St} {x : RV} {d : D} {G : Bool → Hp → Prop} (hr : Rel X.K B F H ρ σ) (h1 : evE np cf ca ρ = .ok x ρ1) (h2 : ofO (der ρ1 x) ρ1 = .ok d ρ')
    (k : ∀ F' H', Post X.K B σ F H ρ F' H' ρ' → G d.isNon H') : GE X a σ H (fun v H' => G (decide (v = V.non)) H') := by
  obtain ⟨ho, e0⟩ := ofO_ok h2
  subst e0
  refine ha F H ρ σ _ hr ⟨x, _, h1, fun v F1 H1 P q f => ?_⟩
  rw [(der_ct P.rel q ho).isNon]
  exact k F1 H1 P
theorem se_isN {j pos'} (ha : SE B X a (evE np cf ca)) : SE B X (.Compare a [.Is] [.Constant .none j pos'] pos) (evE np cf (.isN ca)) := by
  intro F H ρ σ Q hr ⟨r, ρ', hm, k⟩
  obtain ⟨x, ρ1, h1, m1⟩ := bind_ok hm
  obtain ⟨d, ρ2, h2, m2⟩ := bind_ok m1
  cases m2
  exact ge_of (pe_cmp (pc_isN pe_ge)) (isN_core ha hr h1 h2 (G := fun b H' => Q (.bl b) H') fun F' H' P => k _ F' H' P rfl trivial)
theorem se_isNotN {j pos'} (ha : SE B X a (evE np cf ca)) : SE B X (.Compare a [.IsNot] [.Constant .none j pos'] pos) (evE np cf (.isNotN ca)) := by
  intro F H ρ σ Q hr ⟨r, ρ', hm, k⟩
  obtain ⟨x, ρ1, h1, m1⟩ := bind_ok hm
  obtain ⟨d, ρ2, h2, m2⟩ := bind_ok m1
  cases m2
  exact ge_of (pe_cmp (pc_notN pe_ge)) (isN_core ha hr h1 h2 (G := fun b H' => Q (.bl (!b)) H') fun F' H' P => k _ F' H' P rfl trivial)
theorem st_isN {j pos'} (ha : SE B X a (evE np cf ca)) : ST B X (.Compare a [.Is] [.Constant .none j pos'] pos) (evT np cf (.tVal (.isN ca))) := by
  intro F H ρ σ Q hr ⟨r, ρ', hm, k⟩
  obtain ⟨w, ρ0, h0, m0⟩ := bind_ok hm
  obtain ⟨x, ρ1, h1, m1⟩ := bind_ok h0
  obtain ⟨d, ρ2, h2, m2⟩ := bind_ok m1
  cases m2
  cases m0
  exact gt_of (pt_cmp (pc_isN pe_ge)) (isN_core ha hr h1 h2 (G := fun b H' => ∃ c, V.bl b = .bl c ∧ Q c H') fun F' H' P => ⟨_, rfl, k F' H' P⟩)
theorem st_isNotN {j pos'} (ha : SE B X a (evE np cf ca)) : ST B X (.Compare a [.IsNot] [.Constant .none j pos'] pos) (evT np cf (.tVal (.isNotN ca))) := by
  intro F H ρ σ Q hr ⟨r, ρ', hm, k⟩
  obtain ⟨w, ρ0, h0, m0⟩ := bind_ok hm
  obtain ⟨x, ρ1, h1, m1⟩ := bind_ok h0
  obtain ⟨d, ρ2, h2, m2⟩ := bind_ok m1
  cases m2
  cases m0
  exact gt_of (pt_cmp (pc_notN pe_ge)) (isN_core ha hr h1 h2 (G := fun b H' => ∃ c, V.bl (!b) = .bl c ∧ Q c H') fun F' H' P => ⟨_, rfl, k F' H' P⟩)
/-! ### not, and, or, tests -/
theorem se_not (ha : SE B X a (evE np cf ca)) : SE B X (.UnaryOp .Not a pos) (evE np cf (.notV ca)) := by
  intro F H ρ σ Q hr ⟨r, ρ', hm, k⟩
  obtain ⟨x, ρ1, h1, m1⟩ := bind_ok hm
  split at m1
  · rename_i b
    cases m1
    refine ge_of (pe_not pe_ge) (ha F H ρ σ _ hr ⟨_, _, h1, fun v F1 H1 P q f => ?_⟩)
    exact ⟨b, q, k _ F1 H1 P rfl trivial⟩
  · cases m1
theorem se_neg (ha : SE B X a (evE np cf ca)) : SE B X (.UnaryOp .USub a pos) (evE np cf (.neg ca)) := by
  intro F H ρ σ Q hr ⟨r, ρ', hm, k⟩
  obtain ⟨x, ρ1, h1, m1⟩ := bind_ok hm
  split at m1
  · rename_i i hi
    cases m1
    refine ge_of (pe_un un_neg pe_ge) (ha F H ρ σ _ hr ⟨_, _, h1, fun v F1 H1 P q f => ?_⟩)
    exact ⟨i, (der_ct P.rel q hi).int, k _ F1 H1 P rfl trivial⟩
  · cases m1
variable {rest : List Expr}
theorem se_and (ha : SE B X a (evE np cf ca)) (hb : SE B X (.BoolOp .And (b :: rest) pos) (evE np cf cb)) : SE B X (.BoolOp .And (a :: b :: rest) pos) (evE np cf (.andV ca cb)) := by
  intro F H ρ σ Q hr ⟨r, ρ', hm, k⟩
  obtain ⟨x, ρ1, h1, m1⟩ := bind_ok hm
  refine ge_of (pe_and pe_ge pe_ge) (ha F H ρ σ _ hr ⟨_, _, h1, fun v F1 H1 P q f => ?_⟩)
  split at m1
  · refine ⟨true, q, ?_⟩
    rw [if_pos rfl]
    exact hb F1 H1 ρ1 σ _ P.rel ⟨_, _, m1, fun v' F2 H2 P2 q2 f2 => k v' F2 H2 (P.trans P2) q2 (f2.back P)⟩
  · cases m1
    refine ⟨false, q, ?_⟩
    rw [if_neg Bool.false_ne_true]
    exact k _ F1 H1 P rfl trivial
  · cases m1
theorem se_or (ha : SE B X a (evE np cf ca)) (hb : SE B X (.BoolOp .Or (b :: rest) pos) (evE np cf cb)) : SE B X (.BoolOp .Or (a :: b :: rest) pos) (evE np cf (.orV ca cb)) := by
  intro F H ρ σ Q hr ⟨r, ρ', hm, k⟩
  obtain ⟨x, ρ1, h1, m1⟩ := bind_ok hm
  refine ge_of (pe_or pe_ge pe_ge) (ha F H ρ σ _ hr ⟨_, _, h1, fun v F1 H1 P q f => ?_⟩)
  split at m1
  · refine ⟨false, q, ?_⟩
    rw [if_neg Bool.false_ne_true]
    exact hb F1 H1 ρ1 σ _ P.rel ⟨_, _, m1, fun v' F2 H2 P2 q2 f2 => k v' F2 H2 (P.trans P2) q2 (f2.back P)⟩
  · cases m1
    refine ⟨true, q, ?_⟩
    rw [if_pos rfl]
    exact k _ F1 H1 P rfl trivial
  · cases m1
theorem se_one {op : BoolOp} (ha : SE B X a (evE np cf ca)) : SE B X (.BoolOp op [a] pos) (evE np cf ca) := by
  intro F H ρ σ Q hr h
  exact ge_of (pe_one pe_ge) (ha F H ρ σ Q hr h)
theorem se_ite (hc : ST B X c (evT np cf cc)) (ha : SE B X a (evE np cf ca)) (hb : SE B X b (evE np cf cb)) : SE B X (.IfExp c a b pos) (evE np cf (.ite cc ca cb)) := by
  intro F H ρ σ Q hr ⟨r, ρ', hm, k⟩
  obtain ⟨x, ρ1, h1, m1⟩ := bind_ok hm
  refine ge_of (pe_ifExp pt_gt pe_ge pe_ge) (hc F H ρ σ _ hr ⟨_, _, h1, fun F1 H1 P => ?_⟩)
  cases x with
  | true =>
    rw [if_pos rfl]
    exact ha F1 H1 ρ1 σ _ P.rel ⟨_, _, m1, fun v' F2 H2 P2 q2 f2 => k v' F2 H2 (P.trans P2) q2 (f2.back P)⟩
  | false =>
    rw [if_neg Bool.false_ne_true]
    exact hb F1 H1 ρ1 σ _ P.rel ⟨_, _, m1, fun v' F2 H2 P2 q2 f2 => k v' F2 H2 (P.trans P2) q2 (f2.back P)⟩
theorem st_val (ha : SE B X a (evE np cf ca)) (he : ∀ whole, isTrue a X.env whole = (do let v ← whole; standAt a.pos; holding [v] (truthy v))) : ST B X a (evT np cf (.tVal ca)) := by
  intro F H ρ σ Q hr ⟨r, ρ', hm, k⟩
  obtain ⟨x, ρ1, h1, m1⟩ := bind_ok hm
  split at m1
  · cases m1
    refine gt_of (pt_val pe_ge he) (ha F H ρ σ _ hr ⟨_, _, h1, fun v F1 H1 P q f => ?_⟩)
    exact ⟨_, q, k F1 H1 P⟩
  · cases m1
theorem st_not (ha : ST B X a (evT np cf ca)) : ST B X (.UnaryOp .Not a pos) (evT np cf (.tNot ca)) := by
  intro F H ρ σ Q hr ⟨r, ρ', hm, k⟩
  obtain ⟨x, ρ1, h1, m1⟩ := bind_ok hm
  cases m1
  exact gt_of (pt_not pt_gt) (ha F H ρ σ _ hr ⟨_, _, h1, fun F1 H1 P => k F1 H1 P⟩)
theorem sw_and1 (ha : ST B X a (evT np cf ca)) : SW B X (.BoolOp .And [a] pos) (evT np cf ca) := by
  intro F H ρ σ Q hr h
  exact gw_of (pw_and1 pt_gt) (ha F H ρ σ Q hr h)
theorem sw_or1 (ha : ST B X a (evT np cf ca)) : SW B X (.BoolOp .Or [a] pos) (evT np cf ca) := by
  intro F H ρ σ Q hr h
  exact gw_of (pw_or1 pt_gt) (ha F H ρ σ Q hr h)
theorem sw_and (ha : ST B X a (evT np cf ca)) (hb : SW B X (.BoolOp .And (b :: rest) pos) (evT np cf cb)) : SW B X (.BoolOp .And (a :: b :: rest) pos) (evT np cf (.tAnd ca cb)) := by
  intro F H ρ σ Q hr ⟨r, ρ', hm, k⟩
  obtain ⟨x, ρ1, h1, m1⟩ := bind_ok hm
  refine gw_of (pw_and pt_gt pw_gw) (ha F H ρ σ _ hr ⟨_, _, h1, fun F1 H1 P => ?_⟩)
  cases x with
  | true =>
    rw [if_pos rfl]
    exact hb F1 H1 ρ1 σ _ P.rel ⟨_, _, m1, fun F2 H2 P2 => k F2 H2 (P.trans P2)⟩
  | false =>
    cases m1
    rw [if_neg Bool.false_ne_true]
    exact k F1 H1 P
theorem sw_or (ha : ST B X a (evT np cf ca)) (hb : SW B X (.BoolOp .Or (b :: rest) pos) (evT np cf cb)) : SW B X (.BoolOp .Or (a :: b :: rest) pos) (evT np cf (.tOr ca cb)) := by
  intro F H ρ σ Q hr ⟨r, ρ', hm, k⟩
  obtain ⟨x, ρ1, h1, m1⟩ := bind_ok hm
  refine gw_of (pw_or pt_gt pw_gw) (ha F H ρ σ _ hr ⟨_, _, h1, fun F1 H1 P => ?_⟩)
  cases x with
  | true =>
    cases m1
    rw [if_pos rfl]
    exact k F1 H1 P
  | false =>
    rw [if_neg Bool.false_ne_true]
    exact hb F1 H1 ρ1 σ _ P.rel ⟨_, _, m1, fun F2 H2 P2 => k F2 H2 (P.trans P2)⟩
theorem SW.st {m : Rho → R Bool} (h : SW B X e m) : ST B X e m := fun F H ρ σ Q hr q => fun pins s I => h F H ρ σ Q hr q _ pins s I
/-! ### items, displays -/
variable {es : List Expr}
theorem sl_nil : SL B X [] (evEs np cf .nil) := by
  intro F H ρ σ Q hr ⟨l, ρ', hm, k⟩
  cases hm
  exact ga_of pa_nil (k [] F H (Post.refl hr) rfl)
theorem sl_cons (ha : SE B X a (evE np cf ca)) (hb : SL B X es (evEs np cf cb)) (hs : starEach (a :: es) X.env = (false, eval a X.env) :: starEach es X.env) : SL B X (a :: es) (evEs np cf (.cons ca cb)) := by
  intro F H ρ σ Q hr ⟨l, ρ', hm, k⟩
  obtain ⟨x, ρ1, h1, m1⟩ := bind_ok hm
  obtain ⟨d, ρ2, h2, m2⟩ := bind_ok m1
  obtain ⟨l', ρ3, h3, m3⟩ := bind_ok m2
  cases m3
  refine ga_of (pa_cons pe_ge pa_ga hs) (ha F H ρ σ _ hr ⟨_, _, h1, fun v F1 H1 P q f => ?_⟩)
  obtain ⟨F2, P2, q2⟩ := P.toFz hr q f h2
  refine hb F2 H1 ρ2 σ _ P2.rel ⟨_, _, h3, fun vs F3 H3 P3 q3 => ?_⟩
  exact k _ F3 H3 (P2.trans P3) ⟨v, vs, rfl, Rp.mono P3.same d v q2, q3⟩
theorem se_tup {x1} (h : SL B X es (evEs np cf ca)) : SE B X (.Tuple es x1 pos) (evE np cf (.tup ca)) := by
  intro F H ρ σ Q hr ⟨r, ρ', hm, k⟩
  obtain ⟨l, ρ1, h1, m1⟩ := bind_ok hm
  split at m1
  · rename_i hl
    cases m1
    refine ge_of (pe_tup pa_ga) (h F H ρ σ _ hr ⟨_, _, h1, fun vs F1 H1 P q => ?_⟩)
    refine ⟨by rw [q.length]; exact maxLen_le hl, fun p hp => ?_⟩
    obtain ⟨P2, q2⟩ := Post.newTup P.rel hp q
    exact k _ _ _ (P.trans P2) q2 trivial
  · cases m1
theorem se_lst (h : SL B X es (evEs np cf ca)) : SE B X (.List es pos) (evE np cf (.lst ca)) := by
  intro F H ρ σ Q hr ⟨r, ρ', hm, k⟩
  obtain ⟨l, ρ1, h1, m1⟩ := bind_ok hm
  split at m1
  · rename_i hl
    cases m1
    refine ge_of (pe_lst pa_ga) (h F H ρ σ _ hr ⟨_, _, h1, fun vs F1 H1 P q => ?_⟩)
    refine ⟨by rw [q.length]; exact maxLen_le hl, fun p hp => ?_⟩
    exact k _ F1 _ (P.trans (Post.new P.rel hp)) (RvOk.newOw P.rel hp ⟨_, rfl, q⟩) (Fresh.back P (r := .ow (.lst l)) fun p' e => by cases e; exact hp)
  · cases m1
theorem se_dict0 : SE B X (.Dict [] [] pos) (evE np cf .dict0) := by
  intro F H ρ σ Q hr ⟨r, ρ', hm, k⟩
  cases hm
  refine ge_of pe_dnewK fun p hp => ?_
  exact k _ F _ (Post.new hr hp) (RvOk.newOw hr hp ⟨[], rfl, rfl, rfl⟩) fun p' e => by cases e; exact hp
/-! ### items of lists and tuples, slices -/
theorem sub_ok {d1 d2 d : D} (h : subD d1 d2 = some d) : ∃ r0 : R2, IxR X r0 ∧ ∀ (σ : L2.St) (x y : V) (F H : Hp) (ρ : Rho) (Q : VK), Rel X.K B F H ρ σ → Ct X.K F H d1 x → Ct X.K F H d2 y → (∀ v, Rp X.K F d v → Q v H) → r0 x y H Q := by
  unfold subD at h
  split at h
  · rename_i l i
    obtain ⟨j, h1, h2⟩ := obind_some h
    refine ⟨_, ix_list, fun σ x y F H ρ Q hr hx hy k => ?_⟩
    obtain ⟨p, vs, rfl, g1, g2⟩ := hx.lst hr.same
    obtain ⟨v, e, q⟩ := g2.get h2
    refine ⟨p, vs, i, v, rfl, hy.int, SqL.of g1, ?_, k v q⟩
    unfold atI
    rw [g2.length, show ixN l.length i = some j from h1]
    exact e
  · rename_i l i
    obtain ⟨j, h1, h2⟩ := obind_some h
    refine ⟨_, ix_tup, fun σ x y F H ρ Q hr hx hy k => ?_⟩
    obtain ⟨p, vs, rfl, g1, g2⟩ := hx.tup hr.same
    obtain ⟨v, e, q⟩ := g2.get h2
    refine ⟨p, vs, i, v, rfl, hy.int, SqT.of g1, ?_, k v q⟩
    unfold atI
    rw [g2.length, show ixN l.length i = some j from h1]
    exact e
  · rename_i l i
    obtain ⟨j, h1, h2⟩ := obind_some h
    obtain ⟨n, h3, h4⟩ := omap_some h2
    subst h4
    refine ⟨_, ix_list, fun σ x y F H ρ Q hr hx hy k => ?_⟩
    obtain ⟨p, rfl, g1⟩ := hx.scr hr.same
    refine ⟨p, _, i, .int n, rfl, hy.int, g1, ?_, k _ rfl⟩
    unfold atI
    rw [List.length_map, show ixN l.length i = some j from h1]
    show (l.map V.int)[j]? = _
    rw [List.getElem?_map, h3]
    rfl
  · cases h
theorem se_sub (ha : SE B X a (evE np cf ca)) (hb : SE B X b (evE np cf cb)) (hs : PlainIx b) : SE B X (.Subscript a b pos) (evE np cf (.sub ca cb)) := by
  intro F H ρ σ Q hr ⟨r, ρ', hm, k⟩
  obtain ⟨x, ρ1, h1, m1⟩ := bind_ok hm
  obtain ⟨y, ρ2, h2, m2⟩ := bind_ok m1
  obtain ⟨d, ρ3, h3, m3⟩ := bind_ok m2
  obtain ⟨ho, e0⟩ := ofO_ok h3
  subst e0
  cases m3
  obtain ⟨d1, d2, e1, e2, e3⟩ := ob2_some ho
  obtain ⟨r0, ok, run⟩ := sub_ok (X := X) (B := B) e3
  refine ge_of (pe_ix ok pe_ge pe_ge hs) (se2 ha hb hr h1 h2 fun vx vy F2 H2 P qx qy => ?_)
  exact run σ vx vy F2 H2 _ Q P.rel (der_ct P.rel qx e1) (der_ct P.rel qy e2) fun v q => k v F2 H2 P q trivial
end
end PV

/-! PvS3: built-ins, what is walked, targets. -/
namespace PV
open PySem L2
/-! ### built-in functions of one argument -/
def CallOk (X : Cx) (f : Value) (d : D) (r : RV) : Prop := ∃ rc : List V → Hp → VK → Prop, CallR X f rc ∧ ∀ (B : Bs) (σ : L2.St) (x : V) (F H : Hp) (ρ : Rho) (Q : VK), Rel X.K B F H ρ σ → Ct X.K F H d x →
  (∀ v F' H', Post X.K B σ F H ρ F' H' ρ → RvOk X.K F' H' ρ σ r v → Fresh H r v → Q v H') → rc [x] H Q
def biV : Bi → Value
  | .abs => .builtin "abs"
  | .int => .type "int"
  | .len => .builtin "len"
  | .all => .builtin "all"
  | .list => .type "list"
  | .tuple => .type "tuple"
section
variable {X : Cx}
theorem call_listS (hc : X.calm = true) : CallR X (.type "list") (fun xs H Q => ∃ x : Str, xs = [.str x] ∧ x.cps.size ≤ sizeLine ∧ ∀ p, H p = none → Q (.ref p) (upd H p (.lst (x.cps.toList.map fun c => .str ⟨#[c]⟩)))) := by
  intro pins s σ H xs us Q I r h
  obtain ⟨x, rfl, hz, q⟩ := h
  obtain ⟨u, rfl, rx⟩ := vals1 r
  obtain ⟨t, rfl⟩ := rx
  refine call_list_str (I.ok.hd hc) x t (fun h' tk acc c' hk hD hacc => ?_) hz
  have hv : Vals (x.cps.toList.map fun c => V.str ⟨#[c]⟩) acc.toList := by
    refine vals_of_idx _ _ (by rw [Array.length_toList, List.length_map, Array.length_toList]; exact hacc.1) fun j u e => ?_
    obtain ⟨c, u', hcx, rfl⟩ := hacc.2 j u (by rw [← Array.getElem?_toList]; exact e)
    refine ⟨.str ⟨#[c]⟩, ?_, u', rfl⟩
    rw [List.getElem?_map, Array.getElem?_toList, hcx]
    rfl
  refine ⟨.ref s.heap.objs.size, upd H s.heap.objs.size (.lst (x.cps.toList.map fun c => V.str ⟨#[c]⟩)), I.laid (t' := tk) hk (Nat.le_refl _)
    (show ObjOk X.prog X.w _ _ _ (.lst _) from ⟨by rw [List.length_map, Array.length_toList]; exact hz, acc.toList, c', hv, by rw [Array.toArray_toList]; exact hD⟩), rfl, q _ (I.hok.fresh (Nat.le_refl _))⟩
theorem rpl_strs {K : PySem.W.Frag} {F : Hp} : ∀ l : List Nat, RpL K F (l.map fun c => D.str ⟨#[c]⟩) (l.map fun c => V.str ⟨#[c]⟩)
  | [] => rfl
  | c :: l => ⟨_, _, rfl, rfl, rpl_strs l⟩
theorem all_bools {K : PySem.W.Frag} {F : Hp} : ∀ {l : List D} {vs : List V} {b : Bool}, allB l = some b → RpL K F l vs → ∃ bs : List Bool, vs = bs.map V.bl ∧ b = bs.all id
  | [], vs, b, h, q => ⟨[], q, (Option.some.inj h).symm⟩
  | .bl c :: l, _, b, h, q => by
    obtain ⟨v, r, rfl, h1, h2⟩ := q
    obtain ⟨b', h3, rfl⟩ := omap_some (show (allB l).map (c && ·) = some b from h)
    obtain ⟨bs, rfl, rfl⟩ := all_bools h3 h2
    rw [show v = V.bl c from h1]
    exact ⟨c :: bs, rfl, rfl⟩
  | .non :: l, _, b, h, q => by cases h
  | .int _ :: l, _, b, h, q => by cases h
  | .str _ :: l, _, b, h, q => by cases h
  | .lst _ :: l, _, b, h, q => by cases h
  | .tup _ :: l, _, b, h, q => by cases h
  | .dct _ _ :: l, _, b, h, q => by cases h
  | .dcT _ _ :: l, _, b, h, q => by cases h
  | .obj _ _ :: l, _, b, h, q => by cases h
  | .scr _ :: l, _, b, h, q => by cases h
theorem bi_ok (hc : X.calm = true) {b : Bi} {d : D} {r : RV} (h : biD b d = some r) : CallOk X (biV b) d r := by
  unfold biD at h
  split at h
  · cases h
    exact ⟨_, call_abs, fun B σ x F H ρ Q hr hx k => ⟨_, by rw [hx.int], k _ F H (Post.refl hr) rfl trivial⟩⟩
  · cases h
    exact ⟨_, call_int1, fun B σ x F H ρ Q hr hx k => .inl ⟨_, by rw [hx.int], k _ F H (Post.refl hr) rfl trivial⟩⟩
  · cases h
    exact ⟨_, call_int1, fun B σ x F H ρ Q hr hx k => .inr ⟨_, by rw [hx.bl], k _ F H (Post.refl hr) rfl trivial⟩⟩
  · cases h
    refine ⟨_, call_len, fun B σ x F H ρ Q hr hx k => ?_⟩
    obtain ⟨a, vs, rfl, h1, h2⟩ := hx.lst hr.same
    exact ⟨_, _, rfl, .inl ⟨vs, SqL.of h1, h2.length.symm⟩, k _ F H (Post.refl hr) rfl trivial⟩
  · cases h
    refine ⟨_, call_len, fun B σ x F H ρ Q hr hx k => ?_⟩
    obtain ⟨a, vs, rfl, h1, h2⟩ := hx.tup hr.same
    exact ⟨_, _, rfl, .inr ⟨vs, SqT.of h1, h2.length.symm⟩, k _ F H (Post.refl hr) rfl trivial⟩
  · cases h
    refine ⟨_, call_len, fun B σ x F H ρ Q hr hx k => ?_⟩
    obtain ⟨a, rfl, h1⟩ := hx.scr hr.same
    exact ⟨_, _, rfl, .inl ⟨_, h1, (List.length_map _).symm⟩, k _ F H (Post.refl hr) rfl trivial⟩
  · split at h
    · rename_i s hs
      cases h
      refine ⟨_, call_len, fun B σ x F H ρ Q hr hx k => ?_⟩
      exact ⟨.str s, s.length, by rw [hx.str], ⟨maxLen_le hs, rfl⟩, k _ F H (Post.refl hr) rfl trivial⟩
    · cases h
  · obtain ⟨b', h1, rfl⟩ := omap_some h
    refine ⟨_, cr_all hc, fun B σ x F H ρ Q hr hx k => ?_⟩
    obtain ⟨a, vs, rfl, g1, g2⟩ := hx.lst hr.same
    obtain ⟨bs, rfl, rfl⟩ := all_bools h1 g2
    exact ⟨a, bs, rfl, SqL.of g1, k _ F H (Post.refl hr) rfl trivial⟩
  · cases h
    refine ⟨_, call_list_of, fun B σ x F H ρ Q hr hx k => ?_⟩
    obtain ⟨a, vs, rfl, g1, g2⟩ := hx.lst hr.same
    refine ⟨a, vs, rfl, .inl (SqL.of g1), fun p hp => ?_⟩
    exact k _ F _ (Post.new hr hp) (RvOk.newOw hr hp ⟨_, rfl, g2⟩) fun p' e => by cases e; exact hp
  · cases h
    refine ⟨_, call_list_of, fun B σ x F H ρ Q hr hx k => ?_⟩
    obtain ⟨a, vs, rfl, g1, g2⟩ := hx.tup hr.same
    refine ⟨a, vs, rfl, .inr (SqT.of g1), fun p hp => ?_⟩
    exact k _ F _ (Post.new hr hp) (RvOk.newOw hr hp ⟨_, rfl, g2⟩) fun p' e => by cases e; exact hp
  · split at h
    · rename_i s hs
      cases h
      refine ⟨_, call_listS hc, fun B σ x F H ρ Q hr hx k => ?_⟩
      refine ⟨s, by rw [hx.str], maxLen_le hs, fun p hp => ?_⟩
      exact k _ F _ (Post.new hr hp) (RvOk.newOw hr hp ⟨_, rfl, rpl_strs _⟩) fun p' e => by cases e; exact hp
    · cases h
  · cases h
    refine ⟨_, call_tuple_of, fun B σ x F H ρ Q hr hx k => ?_⟩
    obtain ⟨a, vs, rfl, g1, g2⟩ := hx.lst hr.same
    refine ⟨a, vs, rfl, .inl ⟨SqL.of g1, fun p hp => ?_⟩⟩
    obtain ⟨P, q⟩ := Post.newTup hr hp g2
    exact k _ _ _ P q trivial
  · rename_i l0
    cases h
    refine ⟨_, call_tuple_of, fun B σ x F H ρ Q hr hx k => ?_⟩
    have g0 : Rp X.K F (.tup l0) x := by
      rcases hx with hx | ⟨_, _, _, _, hx⟩
      · exact hx
      · exact hx.elim
    obtain ⟨a, vs, rfl, g1, g2⟩ := hx.tup hr.same
    exact ⟨a, vs, rfl, .inr ⟨SqT.of g1, k _ F H (Post.refl hr) g0 trivial⟩⟩
  · cases h
end
/-- isinstance -/
def tyV : Ty → String
  | .int => "int"
  | .bool => "bool"
  | .str => "str"
  | .tuple => "tuple"
  | .list => "list"
theorem isi_ok {X : Cx} {t : Ty} {d : D} {b : Bool} (h : isiD t d = some b) : ∀ (B : Bs) (σ : L2.St) (x : V) (F H : Hp) (ρ : Rho) (Q : VK), Rel X.K B F H ρ σ → Ct X.K F H d x → Q (.bl b) H → rIsi X.K [x, .ty (tyV t)] H Q := by
  intro B σ x F H ρ Q hr hx q
  have go : ∀ (n : String), TyX X.K H x (.type n) → kitB n (tyV t) = some b → rIsi X.K [x, .ty (tyV t)] H Q := fun n ty e => ⟨x, .ty (tyV t), .type n, .type (tyV t), b, rfl, .ty _, ty, kit_ty e, q⟩
  cases d with
  | non =>
    rw [hx.non] at go ⊢
    refine go "NoneType" (.base .non) ?_
    cases t <;> (cases h; decide +kernel)
  | bl c =>
    rw [hx.bl] at go ⊢
    refine go "bool" (.base (.bl c)) ?_
    cases t <;> (cases h; decide +kernel)
  | int c =>
    rw [hx.int] at go ⊢
    refine go "int" (.base (.int c)) ?_
    cases t <;> (cases h; decide +kernel)
  | str c =>
    rw [hx.str] at go ⊢
    refine go "str" (.base (.str c)) ?_
    cases t <;> (cases h; decide +kernel)
  | lst l =>
    obtain ⟨a, vs, rfl, g1, g2⟩ := hx.lst hr.same
    refine go "list" (.base (.lst g1)) ?_
    cases t <;> (cases h; decide +kernel)
  | tup l =>
    obtain ⟨a, vs, rfl, g1, g2⟩ := hx.tup hr.same
    refine go "tuple" (.base (.tup g1)) ?_
    cases t <;> (cases h; decide +kernel)
  | dct ks l =>
    have : ∃ a kvs, x = .ref a ∧ H a = some (.dK kvs) := by
      rcases hx with ⟨a, kvs, rfl, g, _⟩ | ⟨p, o, rfl, g, kvs, rfl, _⟩
      · exact ⟨a, kvs, rfl, hr.same _ _ g⟩
      · exact ⟨p, kvs, rfl, g⟩
    obtain ⟨a, kvs, rfl, g⟩ := this
    refine go "dict" (.base (.dK g)) ?_
    cases t <;> (cases h; decide +kernel)
  | dcT ks l =>
    have : ∃ a kvs, x = .ref a ∧ H a = some (.dT kvs) := by
      rcases hx with ⟨a, kvs, rfl, g, _⟩ | ⟨p, o, rfl, g, kvs, rfl, _⟩
      · exact ⟨a, kvs, rfl, hr.same _ _ g⟩
      · exact ⟨p, kvs, rfl, g⟩
    obtain ⟨a, kvs, rfl, g⟩ := this
    refine go "dict" (.base (.dT g)) ?_
    cases t <;> (cases h; decide +kernel)
  | obj _ _ => cases t <;> cases h
  | scr _ => cases t <;> cases h
section
variable {B : Bs} {X : Cx} {e a b c : Expr} {pos p : Pos} {np : Nat} {cf : Nat → List Sl → CRes} {ca cb cc : C} {x : Str}
/-- one argument -/
theorem ga_one {G : List V → Hp → Prop} {σ : L2.St} {H : Hp} (hs : starEach [a] X.env = (false, eval a X.env) :: starEach [] X.env) (h : GE X a σ H fun v H' => G [v] H') : GA X [a] σ H G := ga_of (pa_cons pe_ge pa_nil hs) h
theorem ga_two {G : List V → Hp → Prop} {σ : L2.St} {H : Hp} (hs : starEach [a, b] X.env = (false, eval a X.env) :: starEach [b] X.env) (hs' : starEach [b] X.env = (false, eval b X.env) :: starEach [] X.env)
    (h : GE X a σ H fun v H' => GE X b σ H' fun w H2 => G [v, w] H2) : GA X [a, b] σ H G := ga_of (pa_cons pe_ge (pa_cons pe_ge pa_nil hs') hs) h
theorem se_bi {bi : Bi} (hc : X.calm = true) (hg : Gl X x) (hm : X.mg x = none) (hv : bootBuiltins x = some (biV bi)) (hn : x ≠ "__name__") (hdb : (x == ("__debug__" : Str)) = false)
    (hs : starEach [a] X.env = (false, eval a X.env) :: starEach [] X.env) (ha : SE B X a (evE np cf ca)) : SE B X (.Call (.Name x p) [a] [] pos) (evE np cf (.bi bi ca)) := by
  intro F H ρ σ Q hr ⟨r, ρ', hm', k⟩
  obtain ⟨y, ρ1, h1, m1⟩ := bind_ok hm'
  obtain ⟨ho, e0⟩ := ofO_ok m1
  subst e0
  obtain ⟨d, e1, e2⟩ := obind_some ho
  obtain ⟨rc, ok, run⟩ := bi_ok (X := X) hc e2
  have body : tCB rc (GA X [a]) σ H Q := ga_one hs (ha F H ρ σ _ hr ⟨y, _, h1, fun v F1 H1 P q f => run B σ v F1 H1 _ Q P.rel (der_ct P.rel q e1) fun v' F' H' P' q' f' => k v' F' H' (P.trans P') q' (f'.back P)⟩)
  cases hb : biV bi with
  | builtin id =>
    rw [hb] at ok hv
    exact ge_of (pe_callB ok hg hm hv pa_ga hn hdb hs rfl) body
  | type T =>
    rw [hb] at ok hv
    exact ge_of (pe_callTy ok hg hm hv pa_ga hn hdb hs rfl) body
  | _ => cases bi <;> cases hb
theorem se_bi2 {mx : Bool} (hc : X.calm = true) (hg : Gl X x) (hm : X.mg x = none) (hv : bootBuiltins x = some (.builtin (if mx then "max" else "min"))) (hn : x ≠ "__name__") (hdb : (x == ("__debug__" : Str)) = false)
    (hs : starEach [a, b] X.env = (false, eval a X.env) :: starEach [b] X.env) (hs' : starEach [b] X.env = (false, eval b X.env) :: starEach [] X.env) (hpl : (backTo pos (starEach [b] X.env)).any (·.1) = false)
    (ha : SE B X a (evE np cf ca)) (hb : SE B X b (evE np cf cb)) : SE B X (.Call (.Name x p) [a, b] [] pos) (evE np cf (.bi2 mx ca cb)) := by
  intro F H ρ σ Q hr ⟨r, ρ', hm', k⟩
  obtain ⟨y, ρ1, h1, m1⟩ := bind_ok hm'
  obtain ⟨z, ρ2, h2, m2⟩ := bind_ok m1
  split at m2
  · rename_i i j
    cases m2
    cases mx with
    | true =>
      refine ge_of (pe_callB (call_max2 hc) hg hm hv pa_ga hn hdb hs hpl) (ga_two hs hs' (se2 ha hb hr h1 h2 fun vx vy F2 H2 P qx qy => ?_))
      exact ⟨i, j, by rw [show vx = V.int i from qx, show vy = V.int j from qy], k _ F2 H2 P rfl trivial⟩
    | false =>
      refine ge_of (pe_callB (call_min2 hc) hg hm hv pa_ga hn hdb hs hpl) (ga_two hs hs' (se2 ha hb hr h1 h2 fun vx vy F2 H2 P qx qy => ?_))
      exact ⟨i, j, by rw [show vx = V.int i from qx, show vy = V.int j from qy], k _ F2 H2 P rfl trivial⟩
  · cases m2
theorem se_isi {t : Ty} {y : Str} {p2 : Pos} (hg : Gl X "isinstance") (hm : X.mg "isinstance" = none) (hgt : Gl X y) (hmt : X.mg y = none) (hvt : bootBuiltins y = some (.type (tyV t))) (hn : y ≠ "__name__") (hdb : (y == ("__debug__" : Str)) = false)
    (hs : starEach [a, .Name y p2] X.env = (false, eval a X.env) :: starEach [.Name y p2] X.env) (ha : SE B X a (evE np cf ca)) : SE B X (.Call (.Name "isinstance" p) [a, .Name y p2] [] pos) (evE np cf (.isi t ca)) := by
  intro F H ρ σ Q hr ⟨r, ρ', hm', k⟩
  obtain ⟨z, ρ1, h1, m1⟩ := bind_ok hm'
  obtain ⟨b', ρ2, h2, m2⟩ := bind_ok m1
  obtain ⟨ho, e0⟩ := ofO_ok h2
  subst e0
  cases m2
  obtain ⟨d, e1, e2⟩ := obind_some ho
  refine ge_of (pe_callB call_isi hg hm (by decide +kernel) (pa_cons pe_ge (pa_cons (pe_bltn (v := V.ty (tyV t)) hgt hmt hvt rfl hn hdb) pa_nil rfl) hs) (by decide) (by decide) hs rfl) ?_
  refine ha F H ρ σ _ hr ⟨z, _, h1, fun v F1 H1 P q f => ?_⟩
  exact isi_ok e2 B σ v F1 H1 _ Q P.rel (der_ct P.rel q e1) (k _ F1 H1 P rfl trivial)
/-! ### slices -/
def SO (B : Bs) (X : Cx) (e : Option Expr) (c : C) (m : Rho → R RV) : Prop := (e = none ∧ c = .nil) ∨ (∃ e', e = some e' ∧ c ≠ .nil ∧ SE B X e' m)
theorem so_none {m : Rho → R RV} : SO B X none .nil m := .inl ⟨rfl, rfl⟩
theorem so_some (hc : ca ≠ .nil) (h : SE B X a (evE np cf ca)) : SO B X (some a) ca (evE np cf ca) := .inr ⟨a, rfl, hc, h⟩
/-- an end of a slice is reckoned -/
theorem so_run {eo : Option Expr} (h : SO B X eo ca (evE np cf ca)) {F H : Hp} {ρ ρ1 : Rho} {σ : L2.St} {o : Option D} (hr : Rel X.K B F H ρ σ) (hm : optR ca (evE np cf ca ρ) ρ = .ok o ρ1) :
    ∃ (t : TO) (oi : Option Int), PO X eo t ∧ o = oi.map D.int ∧ ∀ G : Option Int → Hp → Prop, (∀ F1 H1, Post X.K B σ F H ρ F1 H1 ρ1 → G oi H1) → t σ H G := by
  rcases h with ⟨rfl, rfl⟩ | ⟨e', rfl, hc, h⟩
  · cases hm
    exact ⟨_, none, po_none, rfl, fun G k => k F H (Post.refl hr)⟩
  · have hm : (evE np cf ca ρ).bind (fun x ρ => match x with | .fz (.int i) => R.ok (some (D.int i)) ρ | _ => .fail) = .ok o ρ1 := by
      cases ca <;> first | exact absurd rfl hc | exact hm
    obtain ⟨y, ρ2, h1, m1⟩ := bind_ok hm
    split at m1
    · rename_i i
      cases m1
      refine ⟨_, some i, po_some pe_ge, rfl, fun G k => ?_⟩
      refine h F H ρ σ _ hr ⟨_, _, h1, fun v F1 H1 P q f => ?_⟩
      exact ⟨i, q, k F1 H1 P⟩
    · cases m1
theorem bnd_eq {n dflt k : Nat} {oi : Option Int} (h : bndD n dflt (oi.map D.int) = some k) : k = HT.sIx n dflt oi := by
  cases oi with
  | none => exact (Option.some.inj h).symm
  | some i => exact (Option.some.inj h).symm
theorem cutV_rp {K : PySem.W.Frag} {F : Hp} {l : List D} {vs : List V} (lo hi : Option Int) (q : RpL K F l vs) : RpL K F (cutD l (HT.sIx l.length 0 lo) (HT.sIx l.length l.length hi)) (cutV vs lo hi) := by
  unfold cutD cutV
  rw [q.length]
  exact (q.drop _).take _
theorem se_slc {lo hi : Option Expr} {p2 : Pos} {cl ch : C} (ha : SE B X a (evE np cf ca)) (hl : SO B X lo cl (evE np cf cl)) (hh : SO B X hi ch (evE np cf ch)) : SE B X (.Subscript a (.Slice lo hi none p2) pos) (evE np cf (.slc ca cl ch)) := by
  intro F H ρ σ Q hr ⟨r, ρ', hm, k⟩
  obtain ⟨x, ρ1, h1, m1⟩ := bind_ok hm
  obtain ⟨l, ρ2, h2, m2⟩ := bind_ok m1
  obtain ⟨h, ρ3, h3, m3⟩ := bind_ok m2
  obtain ⟨ho, e0⟩ := ofO_ok m3
  subst e0
  obtain ⟨d, e1, e2⟩ := obind_some ho
  have core : ∀ (r0 : V → Option Int → Option Int → Hp → VK → Prop), SlR X r0 → (∀ (oi oj : Option Int), l = oi.map D.int → h = oj.map D.int → ∀ v F3 H3, Post X.K B σ F H ρ F3 H3 ρ' → Ct X.K F3 H3 d v → r0 v oi oj H3 Q) → GE X (.Subscript a (.Slice lo hi none p2) pos) σ H Q := by
    intro r0 ok run
    -- the ends' rules do not hang on the state
    have tl : ∃ t, PO X lo t ∧ ∀ F1 H1, Post X.K B σ F H ρ F1 H1 ρ1 → ∃ oi, l = oi.map D.int ∧ ∀ G : Option Int → Hp → Prop, (∀ F2 H2, Post X.K B σ F1 H1 ρ1 F2 H2 ρ2 → G oi H2) → t σ H1 G := by
      rcases hl with ⟨rfl, rfl⟩ | ⟨e', rfl, hc, hE⟩
      · cases h2
        exact ⟨_, po_none, fun F1 H1 P => ⟨none, rfl, fun G q => q F1 H1 (Post.refl P.rel)⟩⟩
      · refine ⟨_, po_some pe_ge, fun F1 H1 P => ?_⟩
        have m : (evE np cf cl ρ1).bind (fun x ρ => match x with | .fz (.int i) => R.ok (some (D.int i)) ρ | _ => .fail) = .ok l ρ2 := by
          cases cl <;> first | exact absurd rfl hc | exact h2
        obtain ⟨y, ρ5, g1, g2⟩ := bind_ok m
        split at g2
        · rename_i i
          cases g2
          refine ⟨some i, rfl, fun G q => ?_⟩
          refine hE F1 H1 ρ1 σ _ P.rel ⟨_, _, g1, fun v F2 H2 P2 q2 _ => ?_⟩
          exact ⟨i, q2, q F2 H2 P2⟩
        · cases g2
    have th : ∃ t, PO X hi t ∧ ∀ F1 H1, Post X.K B σ F H ρ F1 H1 ρ2 → ∃ oi, h = oi.map D.int ∧ ∀ G : Option Int → Hp → Prop, (∀ F2 H2, Post X.K B σ F1 H1 ρ2 F2 H2 ρ' → G oi H2) → t σ H1 G := by
      rcases hh with ⟨rfl, rfl⟩ | ⟨e', rfl, hc, hE⟩
      · cases h3
        exact ⟨_, po_none, fun F1 H1 P => ⟨none, rfl, fun G q => q F1 H1 (Post.refl P.rel)⟩⟩
      · refine ⟨_, po_some pe_ge, fun F1 H1 P => ?_⟩
        have m : (evE np cf ch ρ2).bind (fun x ρ => match x with | .fz (.int i) => R.ok (some (D.int i)) ρ | _ => .fail) = .ok h ρ' := by
          cases ch <;> first | exact absurd rfl hc | exact h3
        obtain ⟨y, ρ5, g1, g2⟩ := bind_ok m
        split at g2
        · rename_i i
          cases g2
          refine ⟨some i, rfl, fun G q => ?_⟩
          refine hE F1 H1 ρ2 σ _ P.rel ⟨_, _, g1, fun v F2 H2 P2 q2 _ => ?_⟩
          exact ⟨i, q2, q F2 H2 P2⟩
        · cases g2
    obtain ⟨t1, po1, run1⟩ := tl
    obtain ⟨t2, po2, run2⟩ := th
    refine ge_of (pe_slice ok pe_ge po1 po2) (ha F H ρ σ _ hr ⟨x, ρ1, h1, fun v F1 H1 P q f => ?_⟩)
    obtain ⟨oi, ei, g1⟩ := run1 F1 H1 P
    refine g1 _ fun F2 H2 P2 => ?_
    obtain ⟨oj, ej, g2⟩ := run2 F2 H2 (P.trans P2)
    refine g2 _ fun F3 H3 P3 => ?_
    exact run oi oj ei ej v F3 H3 ((P.trans P2).trans P3) (der_ct P3.rel ((q.step P2).step P3) e1)
  unfold slcD at e2
  split at e2
  · rename_i l0
    obtain ⟨n1, b1, e3⟩ := obind_some e2
    obtain ⟨n2, b2, e4⟩ := obind_some e3
    cases e4
    refine core _ sl_list fun oi oj ei ej v F3 H3 P q => ?_
    subst ei ej
    rw [bnd_eq b1, bnd_eq b2] at k
    obtain ⟨p0, vs, rfl, g1, g2⟩ := q.lst P.rel.same
    refine ⟨p0, vs, rfl, SqL.of g1, fun t ht => ?_⟩
    exact k _ F3 _ (P.trans (Post.new P.rel ht)) (RvOk.newOw P.rel ht ⟨_, rfl, cutV_rp oi oj g2⟩) (Fresh.back P (r := .ow _) fun p' e => by cases e; exact ht)
  · rename_i l0
    obtain ⟨n1, b1, e3⟩ := obind_some e2
    obtain ⟨n2, b2, e4⟩ := obind_some e3
    cases e4
    refine core _ sl_tupA fun oi oj ei ej v F3 H3 P q => ?_
    subst ei ej
    rw [bnd_eq b1, bnd_eq b2] at k
    have g0 : Rp X.K F3 (.tup l0) v := by
      rcases q with q | ⟨_, _, _, _, q⟩
      · exact q
      · exact q.elim
    obtain ⟨p0, vs, rfl, g1, g2⟩ := q.tup P.rel.same
    have gc := cutV_rp oi oj g2
    refine ⟨p0, vs, rfl, SqT.of g1, fun hw => ?_, fun hw t ht => ?_⟩
    · have ec : cutD l0 (HT.sIx l0.length 0 oi) (HT.sIx l0.length l0.length oj) = l0 := by
        rw [g2.length] at hw
        rw [hw.1, hw.2]
        unfold cutD
        rw [List.drop_zero, Nat.sub_zero, List.take_length]
      rw [ec] at k
      exact k _ F3 H3 P g0 trivial
    · obtain ⟨P2, q2⟩ := Post.newTup P.rel ht gc
      exact k _ _ _ (P.trans P2) q2 trivial
  · cases e2
/-! ### join -/
theorem strs_of {K : PySem.W.Frag} {F : Hp} : ∀ {l : List D} {vs : List V} {ys : List Str}, strsD l = some ys → RpL K F l vs → vs = ys.map V.str
  | [], vs, ys, h, q => by cases h; exact q
  | .str c :: l, _, ys, h, q => by
    obtain ⟨v, r, rfl, h1, h2⟩ := q
    obtain ⟨ys', h3, rfl⟩ := omap_some (show (strsD l).map (c :: ·) = some ys from h)
    rw [show v = V.str c from h1, strs_of h3 h2]
    rfl
  | .non :: l, _, b, h, q => by cases h
  | .int _ :: l, _, b, h, q => by cases h
  | .bl _ :: l, _, b, h, q => by cases h
  | .lst _ :: l, _, b, h, q => by cases h
  | .tup _ :: l, _, b, h, q => by cases h
  | .dct _ _ :: l, _, b, h, q => by cases h
  | .dcT _ _ :: l, _, b, h, q => by cases h
  | .obj _ _ :: l, _, b, h, q => by cases h
  | .scr _ :: l, _, b, h, q => by cases h
theorem se_join {apos : Pos} (hs : starEach [b] X.env = [(false, eval b X.env)]) (hbase : attributeBase a "join" X.env (eval a X.env) = eval a X.env) (hline : (apos.endLine == pos.line) = true) (ha : SE B X a (evE np cf ca)) (hb : SE B X b (evE np cf cb)) :
    SE B X (.Call (.Attribute a "join" apos) [b] [] pos) (evE np cf (.join ca cb)) := by
  intro F H ρ σ Q hr ⟨r, ρ', hm, k⟩
  obtain ⟨x, ρ1, h1, m1⟩ := bind_ok hm
  split at m1
  · rename_i s
    obtain ⟨y, ρ2, h2, m2⟩ := bind_ok m1
    obtain ⟨d, ρ3, h3, m3⟩ := bind_ok m2
    obtain ⟨ho, e0⟩ := ofO_ok h3
    subst e0
    cases m3
    obtain ⟨d2, e2, e3⟩ := obind_some ho
    unfold joinD at e3
    split at e3
    · rename_i l
      obtain ⟨ys, g1, g2⟩ := obind_some e3
      split at g2
      · rename_i hz
        cases g2
        refine ge_of (pe_join pe_ge pe_ge hs hbase hline) ?_
        refine ha F H ρ σ _ hr ⟨_, ρ1, h1, fun vx F1 H1 P1 q1 _ => ⟨⟨s, q1⟩, ?_⟩⟩
        refine hb F1 H1 ρ1 σ _ P1.rel ⟨_, _, h2, fun vy F2 H2 P2 q2 _ => ?_⟩
        obtain ⟨p0, vs, rfl, g3, g4⟩ := (der_ct P2.rel q2 e2).lst P2.rel.same
        have ev := strs_of g1 g4
        subst ev
        refine ⟨s, p0, ys, q1, rfl, .inl (SqL.of g3), ?_, k _ F2 H2 (P1.trans P2) rfl trivial⟩
        have := maxLen_le hz
        rw [sizeLine_eq] at this
        exact this
      · cases g2
    · cases e3
  · cases m1
end
end PV

/-! PvS4: what is walked, targets, comprehensions. -/
namespace PV
open PySem L2
/-! ### slots -/
section
variable {K : PySem.W.Frag} {B : Bs} {σ : L2.St} {F F1 F' H H1 H' : Hp} {ρ ρ1 ρ' : Rho} {v : V} {d : D}
theorem Rel.setFz (h : Rel K B F H ρ σ) {i : Nat} (hn : B.np ≤ i) (hi : i < ρ.length) (q : Rp K F d v) : Rel K B F H (ρ.set i (.fz d)) (σ.set i (some v)) := by
  have hs : i < σ.length := by rw [← h.len]; exact hi
  have ow' : ∀ j p, OwnAt (ρ.set i (.fz d)) (σ.set i (some v)) j p → j ≠ i ∧ OwnAt ρ σ j p := fun j p ⟨d', g1, g2⟩ => by
    by_cases hj : j = i
    · subst hj
      rw [List.getElem?_set_self hi] at g1
      cases g1
    · rw [List.getElem?_set_ne (Ne.symm hj)] at g1 g2
      exact ⟨hj, d', g1, g2⟩
  refine ⟨h.same, by rw [List.length_set, List.length_set]; exact h.len, fun j => ?_, fun j k p a b => h.dis j k p (ow' j p a).2 (ow' k p b).2, h.sameB, h.pre, h.dom, h.frz, fun j p g a => h.loc j p g (ow' j p a).2, fun j p g a => h.par j p g (ow' j p a).2, fun j hj => ?_⟩
  · by_cases hj : j = i
    · subst hj
      rw [List.getElem?_set_self hi, List.getElem?_set_self hs]
      exact ⟨v, rfl, q⟩
    · rw [List.getElem?_set_ne (Ne.symm hj), List.getElem?_set_ne (Ne.symm hj)]
      exact h.sl j
  · rw [List.getElem?_set_ne (by omega)]
    exact h.arg j hj
theorem Rel.setUn (h : Rel K B F H ρ σ) {i : Nat} (hn : B.np ≤ i) (w : Option V) : Rel K B F H (ρ.set i .un) (σ.set i w) := by
  have ow' : ∀ j p, OwnAt (ρ.set i .un) (σ.set i w) j p → j ≠ i ∧ OwnAt ρ σ j p := fun j p ⟨d', g1, g2⟩ => by
    by_cases hj : j = i
    · subst hj
      rw [List.getElem?_set] at g1
      simp only [if_true] at g1
      split at g1 <;> cases g1
    · rw [List.getElem?_set_ne (Ne.symm hj)] at g1 g2
      exact ⟨hj, d', g1, g2⟩
  refine ⟨h.same, by rw [List.length_set, List.length_set]; exact h.len, fun j => ?_, fun j k p a b => h.dis j k p (ow' j p a).2 (ow' k p b).2, h.sameB, h.pre, h.dom, h.frz, fun j p g a => h.loc j p g (ow' j p a).2, fun j p g a => h.par j p g (ow' j p a).2, fun j hj => ?_⟩
  · by_cases hj : j = i
    · subst hj
      rw [List.getElem?_set]
      simp only [if_true]
      split <;> trivial
    · rw [List.getElem?_set_ne (Ne.symm hj), List.getElem?_set_ne (Ne.symm hj)]
      exact h.sl j
  · rw [List.getElem?_set_ne (by omega)]
    exact h.arg j hj
theorem Rel.setOw (h : Rel K B F H ρ σ) {i : Nat} {p : Addr} {o : HO} (hn : B.np ≤ i) (hi : i < ρ.length) (g1 : H p = some o) (g2 : F p = none) (g3 : RpO K F d o) (g4 : ∀ i, ¬ OwnAt ρ σ i p) (g5 : B.H p = none) :
    Rel K B F H (ρ.set i (.ow d)) (σ.set i (some (.ref p))) := by
  have hs : i < σ.length := by rw [← h.len]; exact hi
  have ow' : ∀ j q, OwnAt (ρ.set i (.ow d)) (σ.set i (some (.ref p))) j q → (j = i ∧ q = p) ∨ (j ≠ i ∧ OwnAt ρ σ j q) := fun j q ⟨d', e1, e2⟩ => by
    by_cases hj : j = i
    · subst hj
      rw [List.getElem?_set_self hs] at e2
      cases e2
      exact .inl ⟨rfl, rfl⟩
    · rw [List.getElem?_set_ne (Ne.symm hj)] at e1 e2
      exact .inr ⟨hj, d', e1, e2⟩
  refine ⟨h.same, by rw [List.length_set, List.length_set]; exact h.len, fun j => ?_, fun j k q a b => ?_, h.sameB, h.pre, h.dom, h.frz, fun j q g a => ?_, fun j q g a => ?_, fun j hj => ?_⟩
  · by_cases hj : j = i
    · subst hj
      rw [List.getElem?_set_self hi, List.getElem?_set_self hs]
      exact ⟨p, o, rfl, g1, g2, g3⟩
    · rw [List.getElem?_set_ne (Ne.symm hj), List.getElem?_set_ne (Ne.symm hj)]
      exact h.sl j
  · rcases ow' j q a with ⟨e1, e2⟩ | ⟨n1, a1⟩
    · rcases ow' k q b with ⟨e3, e4⟩ | ⟨n2, b1⟩
      · rw [e1, e3]
      · rw [e2] at b1
        exact absurd b1 (g4 k)
    · rcases ow' k q b with ⟨e3, e4⟩ | ⟨n2, b1⟩
      · rw [e4] at a1
        exact absurd a1 (g4 j)
      · exact h.dis j k q a1 b1
  · rcases ow' j q a with ⟨e1, e2⟩ | ⟨n1, a1⟩
    · rw [e2]; exact g5
    · exact h.loc j q g a1
  · rcases ow' j q a with ⟨e1, e2⟩ | ⟨n1, a1⟩
    · omega
    · exact h.par j q g a1
  · rw [List.getElem?_set_ne (by omega)]
    exact h.arg j hj
/-- a thing that no name holds is written -/
theorem Rel.write (h : Rel K B F H ρ σ) {p : Addr} {o o' : HO} (g1 : H p = some o) (g2 : F p = none) (g4 : ∀ i, ¬ OwnAt ρ σ i p) (g5 : B.H p = none) : Rel K B F (upd H p o') ρ σ := by
  have sm : Same F (upd H p o') := fun b x q => by
    rw [upd_ne (ne_of_none q g2)]
    exact h.same b x q
  refine ⟨sm, h.len, fun j => ?_, h.dis, h.sameB, fun b x q n => ?_, fun b x q => ?_, h.frz, h.loc, h.par, h.arg⟩
  · have sj := h.sl j
    cases g : ρ[j]? with
    | none => trivial
    | some w =>
      rw [g] at sj
      cases w with
      | un => trivial
      | fz d' => exact sj
      | ow d' =>
        obtain ⟨p', o', q1, q2, q3, q4⟩ := sj
        exact ⟨p', o', q1, by rw [upd_ne fun z => g4 j ⟨d', g, by rw [q1, z]⟩]; exact q2, q3, q4⟩
  · rw [upd_ne (ne_of_none q g5)]
    exact h.pre b x q n
  · rw [upd_ne (ne_of_none q g5)]
    exact h.dom b x q
theorem Rel.bfree (h : Rel K B F H ρ σ) {p : Addr} (hp : H p = none) : B.H p = none := by
  cases q : B.H p with
  | none => rfl
  | some x =>
    obtain ⟨_, z⟩ := h.dom p x q
    rw [hp] at z
    cases z
end
/-! ### what is walked -/
/-- an item comes: it stands already, or it is a new tuple -/
def YOk (K : PySem.W.Frag) (F H : Hp) (d : D) (x : V) (H' : Hp) : Prop := (H' = H ∧ Rp K F d x) ∨ ∃ T xs l, H T = none ∧ H' = upd H T (.tup xs) ∧ x = .ref T ∧ d = .tup l ∧ RpL K F l xs
structure ItOk (K : PySem.W.Frag) (F : Hp) (J : It) (ds : List D) : Prop where
  go : ∀ i H, Same F H → i < ds.length → J.go i H
  stop : ∀ i H, Same F H → ds.length ≤ i → J.stop i H
  yld : ∀ i H x H', Same F H → J.yld i H x H' → i < ds.length → ∃ d, ds[i]? = some d ∧ YOk K F H d x H'
def SI (B : Bs) (X : Cx) (tg iter : Expr) (m : Rho → R (List D)) : Prop := ∀ F H ρ σ Z, Rel X.K B F H ρ σ → (∃ ds ρ', m ρ = .ok ds ρ' ∧ ∀ J F' H', Post X.K B σ F H ρ F' H' ρ' → ItOk X.K F' J ds → Z J H') → GI X tg iter σ H Z
theorem YOk.step {K : PySem.W.Frag} {B : Bs} {F F1 H H' : Hp} {ρ : Rho} {σ : L2.St} {d : D} {x : V} (h : YOk K F H d x H') (sm : Same F F1) (hr : Rel K B F1 H ρ σ) : ∃ F2, Post K B σ F1 H ρ F2 H' ρ ∧ Rp K F2 d x := by
  rcases h with ⟨rfl, q⟩ | ⟨T, xs, l, hT, rfl, rfl, rfl, q⟩
  · exact ⟨F1, Post.refl hr, Rp.mono sm _ _ q⟩
  · obtain ⟨P, q'⟩ := Post.newTup hr hT (RpL.mono sm _ _ q)
    exact ⟨_, P, q'⟩
theorem itok_list {K : PySem.W.Frag} {F : Hp} {a : Addr} {vs : List V} {l : List D} (h : F a = some (.lst vs)) (q : RpL K F l vs) : ItOk K F (Itl K a) l := by
  have eq : ∀ H xs, Same F H → SqL K H a xs → True := fun _ _ _ _ => trivial
  refine ⟨fun i H s hi => ?_, fun i H s hi => ⟨vs, SqL.of (s _ _ h), by rw [q.length]; exact hi⟩, fun i H x H' s y hi => ?_⟩
  · obtain ⟨v, e, _⟩ := q.get (List.getElem?_eq_getElem hi)
    exact ⟨vs, v, SqL.of (s _ _ h), e⟩
  · obtain ⟨e, y⟩ := y
    obtain ⟨v, e', rp⟩ := q.get (List.getElem?_eq_getElem hi)
    have := y vs (SqL.of (s _ _ h))
    rw [this] at e'
    cases e'
    exact ⟨l[i], List.getElem?_eq_getElem hi, .inl ⟨e, rp⟩⟩
theorem itok_tup {K : PySem.W.Frag} {F : Hp} {a : Addr} {vs : List V} {l : List D} (h : F a = some (.tup vs)) (q : RpL K F l vs) : ItOk K F (Itt K a) l := by
  refine ⟨fun i H s hi => ?_, fun i H s hi => ⟨vs, SqT.of (s _ _ h), by rw [q.length]; exact hi⟩, fun i H x H' s y hi => ?_⟩
  · obtain ⟨v, e, _⟩ := q.get (List.getElem?_eq_getElem hi)
    exact ⟨vs, v, SqT.of (s _ _ h), e⟩
  · obtain ⟨e, y⟩ := y
    obtain ⟨v, e', rp⟩ := q.get (List.getElem?_eq_getElem hi)
    have := y vs (SqT.of (s _ _ h))
    rw [this] at e'
    cases e'
    exact ⟨l[i], List.getElem?_eq_getElem hi, .inl ⟨e, rp⟩⟩
theorem itok_str {K : PySem.W.Frag} {F : Hp} {s : Str} : ItOk K F (Its s) (s.cps.toList.map fun c => .str ⟨#[c]⟩) := by
  have hl : (s.cps.toList.map fun c => D.str ⟨#[c]⟩).length = s.cps.size := by rw [List.length_map, Array.length_toList]
  refine ⟨fun i H _ hi => by rw [hl] at hi; exact hi, fun i H _ hi => by rw [hl] at hi; exact hi, fun i H x H' _ y hi => ?_⟩
  obtain ⟨e, c, hc, rfl⟩ := y
  refine ⟨.str ⟨#[c]⟩, ?_, .inl ⟨e, rfl⟩⟩
  rw [List.getElem?_map, Array.getElem?_toList, hc]
  rfl
theorem itok_rng {K : PySem.W.Frag} {F : Hp} (lo : Int) (n : Nat) : ItOk K F (Itr lo n) (rngD lo n) := by
  have hl : (rngD lo n).length = n := by unfold rngD; rw [List.length_map, List.length_range]
  refine ⟨fun i H _ hi => by rw [hl] at hi; exact hi, fun i H _ hi => by rw [hl] at hi; exact hi, fun i H x H' _ y hi => ?_⟩
  obtain ⟨e, rfl⟩ := y
  rw [hl] at hi
  refine ⟨.int (lo + i), ?_, .inl ⟨e, rfl⟩⟩
  unfold rngD
  rw [List.getElem?_map, List.getElem?_range hi]
  rfl
section
variable {B : Bs} {X : Cx} {e a b c tg : Expr} {pos p : Pos} {np : Nat} {cf : Nat → List Sl → CRes} {ca cb cc ct : C} {x : Str}
theorem si_val (ha : SE B X a (evE np cf ca)) : SI B X tg a (evI np cf (.iVal ca)) := by
  intro F H ρ σ Z hr ⟨ds, ρ', hm, k⟩
  obtain ⟨r, ρ1, h1, m1⟩ := bind_ok hm
  obtain ⟨d, ρ2, h2, m2⟩ := bind_ok m1
  obtain ⟨ho, e0⟩ := ofO_ok m2
  subst e0
  have run : ∀ (G : V → Hp → Prop), (∀ v F' H', Post X.K B σ F H ρ F' H' ρ' → Rp X.K F' d v → G v H') → GE X a σ H G := fun G q => ha.sd F H ρ σ G hr ⟨d, ρ', by show (evE np cf ca ρ).bind _ = _; rw [h1]; exact h2, q⟩
  unfold seqD at ho
  split at ho
  · rename_i l
    cases ho
    refine gi_of (pi_list pe_ge) (run _ fun v F' H' P q => ?_)
    obtain ⟨a0, vs, rfl, g1, g2⟩ := q
    exact ⟨a0, rfl, ⟨vs, SqL.of (P.rel.same _ _ g1)⟩, k _ F' H' P (itok_list g1 g2)⟩
  · rename_i l
    cases ho
    refine gi_of (pi_tup pe_ge) (run _ fun v F' H' P q => ?_)
    obtain ⟨a0, vs, rfl, g1, g2⟩ := q
    exact ⟨a0, rfl, ⟨vs, SqT.of (P.rel.same _ _ g1)⟩, k _ F' H' P (itok_tup g1 g2)⟩
  · rename_i s
    cases ho
    refine gi_of (pi_str pe_ge) (run _ fun v F' H' P q => ?_)
    exact ⟨s, q, k _ F' H' P itok_str⟩
  · cases ho
theorem si_rng1 (hg : Gl X "range") (hm : X.mg "range" = none) (hs : starEach [a] X.env = [(false, eval a X.env)]) (hs' : starEach [a] X.env = (false, eval a X.env) :: starEach [] X.env) (ha : SE B X a (evE np cf ca)) : SI B X tg (.Call (.Name "range" p) [a] [] pos) (evI np cf (.iRng1 ca)) := by
  intro F H ρ σ Z hr ⟨ds, ρ', hm', k⟩
  obtain ⟨r, ρ1, h1, m1⟩ := bind_ok hm'
  split at m1
  · rename_i j
    split at m1
    · rename_i hj
      cases m1
      refine gi_of (pi_range1 hg hm pa_ga hs) (ga_one hs' (ha F H ρ σ _ hr ⟨_, _, h1, fun v F1 H1 P q f => ?_⟩))
      exact ⟨j, by rw [show v = V.int j from q], hj.1, hj.2, k _ F1 H1 P (itok_rng 0 _)⟩
    · cases m1
  · cases m1
theorem si_rng2 (hg : Gl X "range") (hm : X.mg "range" = none) (hs : starEach [a, b] X.env = [(false, eval a X.env), (false, eval b X.env)]) (hs1 : starEach [a, b] X.env = (false, eval a X.env) :: starEach [b] X.env) (hs2 : starEach [b] X.env = [(false, eval b X.env)])
    (hs3 : starEach [b] X.env = (false, eval b X.env) :: starEach [] X.env) (ha : SE B X a (evE np cf ca)) (hb : SE B X b (evE np cf cb)) : SI B X tg (.Call (.Name "range" p) [a, b] [] pos) (evI np cf (.iRng2 ca cb)) := by
  intro F H ρ σ Z hr ⟨ds, ρ', hm', k⟩
  obtain ⟨r, ρ1, h1, m1⟩ := bind_ok hm'
  obtain ⟨r2, ρ2, h2, m2⟩ := bind_ok m1
  split at m2
  · rename_i i j
    split at m2
    · rename_i hj
      cases m2
      refine gi_of (pi_range2 hg hm pa_ga hs hs2) (ga_two hs1 hs3 (se2 ha hb hr h1 h2 fun vx vy F2 H2 P qx qy => ?_))
      exact ⟨i, j, by rw [show vx = V.int i from qx, show vy = V.int j from qy], hj, k _ F2 H2 P (itok_rng i _)⟩
    · cases m2
  · cases m2
theorem rpl_rng {K : PySem.W.Frag} {F : Hp} (lo : Int) : ∀ l : List Nat, RpL K F (l.map fun (k : Nat) => D.int (lo + (k : Int))) (l.map fun (k : Nat) => V.int (lo + (k : Nat)))
  | [] => rfl
  | _ :: l => ⟨_, _, rfl, rfl, rpl_rng lo l⟩
/-- list(range(a, b)) -/
theorem se_lrng2 {q1 q2 : Pos} (hc : X.calm = true) (hgl : Gl X "list") (hml : X.mg "list" = none) (hg : Gl X "range") (hm : X.mg "range" = none) (hs1 : starEach [a, b] X.env = (false, eval a X.env) :: starEach [b] X.env) (hs3 : starEach [b] X.env = (false, eval b X.env) :: starEach [] X.env)
    (hpl : (backTo q2 (starEach [b] X.env)).any (·.1) = false) (hs4 : starEach [Expr.Call (.Name "range" q1) [a, b] [] q2] X.env = (false, eval (.Call (.Name "range" q1) [a, b] [] q2) X.env) :: starEach [] X.env) (ha : SE B X a (evE np cf ca)) (hb : SE B X b (evE np cf cb)) :
    SE B X (.Call (.Name "list" p) [.Call (.Name "range" q1) [a, b] [] q2] [] pos) (evE np cf (.lrng (.iRng2 ca cb))) := by
  intro F H ρ σ Q hr ⟨r, ρ', hm', k⟩
  obtain ⟨ds, ρ0, h0, m0⟩ := bind_ok hm'
  obtain ⟨r1, ρ1, h1, m1⟩ := bind_ok h0
  obtain ⟨r2, ρ2, h2, m2⟩ := bind_ok m1
  split at m2
  · rename_i i j
    split at m2
    · rename_i hj
      cases m2
      split at m0
      · rename_i hl
        cases m0
        have hn : (j - i).toNat ≤ maxLen := by
          have e : (rngD i (j - i).toNat).length = (j - i).toNat := by unfold rngD; rw [List.length_map, List.length_range]
          rw [e] at hl
          exact hl
        unfold maxLen at hn
        refine ge_of (pe_listRg hc hgl hml (prg_2 hg hm pe_ge pe_ge hs1 hs3 hpl) hs4) (se2 ha hb hr h1 h2 fun vx vy F2 H2 P qx qy => ?_)
        refine ⟨i, j, qx, qy, ⟨hj.1, hj.2.1, hj.2.2.1, hj.2.2.2, by omega⟩, fun t ht => ?_⟩
        exact k _ F2 _ (P.trans (Post.new P.rel ht)) (RvOk.newOw P.rel ht ⟨_, rfl, rpl_rng i _⟩) (Fresh.back P (r := .ow _) fun p' e => by cases e; exact ht)
      · cases m0
    · cases m2
  · cases m2
/-! ### targets -/
def GG (X : Cx) (tg : Expr) : TG := fun v σ H Q => ∀ pins s u, Inv X pins σ H s → RelV v u → wpAny (model X.prog X.w) X.A (assign tg X.env u) (fun _ s' => ∃ σ' H', Inv X pins σ' H' s' ∧ Q σ' H') X.xe s
def GGs (X : Cx) (ts : List Expr) : TGs := fun vs σ H Q => ∀ pins s us, Inv X pins σ H s → Vals vs us → wpAny (model X.prog X.w) X.A (assignInOrder ((assignEach ts X.env).map (·.2)) us) (fun _ s' => ∃ σ' H', Inv X pins σ' H' s' ∧ Q σ' H') X.xe s
theorem pg_gg : PG X tg (GG X tg) := ⟨fun pins s σ H v u Q I r h => h pins s u I r⟩
theorem pgs_ggs {ts : List Expr} : PGs X ts (GGs X ts) := ⟨fun pins s σ H vs us Q I r h => h pins s us I r⟩
theorem gg_of {g : TG} {v : V} {σ : L2.St} {H : Hp} {Q : L2.St → Hp → Prop} (h : PG X tg g) (q : g v σ H Q) : GG X tg v σ H Q := fun pins s u I r => h.run pins s σ H v u Q I r q
theorem ggs_of {ts : List Expr} {g : TGs} {vs : List V} {σ : L2.St} {H : Hp} {Q : L2.St → Hp → Prop} (h : PGs X ts g) (q : g vs σ H Q) : GGs X ts vs σ H Q := fun pins s us I r => h.run pins s σ H vs us Q I r q
mutual
def tgS : C → List Nat
  | .tName i => [i]
  | .tTup ts => tgSs ts
  | _ => []
def tgSs : C → List Nat
  | .cons t ts => tgS t ++ tgSs ts
  | _ => []
end
/-- what stays: the slots but those of the target, who owns what -/
structure Stay (l : List Nat) (ρ : Rho) (σ : L2.St) (ρ' : Rho) (σ' : L2.St) : Prop where
  len : σ'.length = σ.length
  eq : ∀ i : Nat, i ∉ l → σ'[i]? = σ[i]? ∧ ρ'[i]? = ρ[i]?
  own : ∀ i p, OwnAt ρ' σ' i p → OwnAt ρ σ i p
theorem Stay.refl {l : List Nat} {ρ : Rho} {σ : L2.St} : Stay l ρ σ ρ σ := ⟨rfl, fun _ _ => ⟨rfl, rfl⟩, fun _ _ h => h⟩
theorem Stay.trans {l l1 l2 : List Nat} {ρ ρ1 ρ2 : Rho} {σ σ1 σ2 : L2.St} (a : Stay l1 ρ σ ρ1 σ1) (b : Stay l2 ρ1 σ1 ρ2 σ2) (h1 : ∀ i ∈ l1, i ∈ l) (h2 : ∀ i ∈ l2, i ∈ l) : Stay l ρ σ ρ2 σ2 :=
  ⟨b.len.trans a.len, fun i hi => ⟨((b.eq i fun z => hi (h2 i z)).1).trans (a.eq i fun z => hi (h1 i z)).1, ((b.eq i fun z => hi (h2 i z)).2).trans (a.eq i fun z => hi (h1 i z)).2⟩, fun i p q => a.own i p (b.own i p q)⟩
def SG (B : Bs) (X : Cx) (tg : Expr) (ct : C) : Prop := ∀ F H ρ σ v d ρ' Q, Rel X.K B F H ρ σ → Rp X.K F d v → bindT B.np ct d ρ = some ρ' → (∀ σ', Rel X.K B F H ρ' σ' → Stay (tgS ct) ρ σ ρ' σ' → Q σ' H) → GG X tg v σ H Q
def SGs (B : Bs) (X : Cx) (ts : List Expr) (ct : C) : Prop := ∀ F H ρ σ vs l ρ' Q, Rel X.K B F H ρ σ → RpL X.K F l vs → bindTs B.np ct l ρ = some ρ' → (∀ σ', Rel X.K B F H ρ' σ' → Stay (tgSs ct) ρ σ ρ' σ' → Q σ' H) → GGs X ts vs σ H Q
theorem setSl_some {np i : Nat} {s : Sl} {ρ ρ' : Rho} (h : setSl np i s ρ = some ρ') : np ≤ i ∧ i < ρ.length ∧ ρ' = ρ.set i s := by
  unfold setSl at h
  split at h
  · rename_i hc
    exact ⟨hc.1, hc.2, (Option.some.inj h).symm⟩
  · cases h
theorem stay_set {ρ : Rho} {σ : L2.St} {i : Nat} {d : D} {v : V} (hi : i < ρ.length) : Stay [i] ρ σ (ρ.set i (.fz d)) (σ.set i (some v)) := by
  refine ⟨List.length_set .., fun j hj => ?_, fun j p ⟨d', g1, g2⟩ => ?_⟩
  · have hj : i ≠ j := fun z => hj (by rw [z]; exact List.mem_singleton.mpr rfl)
    exact ⟨List.getElem?_set_ne hj, List.getElem?_set_ne hj⟩
  · by_cases hj : j = i
    · subst hj
      rw [List.getElem?_set_self hi] at g1
      cases g1
    · rw [List.getElem?_set_ne (Ne.symm hj)] at g1 g2
      exact ⟨d', g1, g2⟩
theorem sg_name {i : Nat} {x : Str} (hN : X.N.Nodup) (hi : X.N[i]? = some x) (hx : Loc X.env.scope x) (hf : X.fn x = true ∨ X.env.scope.names.lookup x = some .local) : SG B X (.Name x pos) (.tName i) := by
  intro F H ρ σ v d ρ' Q hr q hb k
  obtain ⟨h1, h2, rfl⟩ := setSl_some hb
  exact gg_of (pg_name hN hi hx hf) (k _ (hr.setFz h1 h2 q) (stay_set h2))
theorem sgs_nil : SGs B X [] .nil := by
  intro F H ρ σ vs l ρ' Q hr q hb k
  cases l with
  | cons _ _ => cases hb
  | nil =>
    cases hb
    exact ggs_of pgs_nil ⟨q, k σ hr Stay.refl⟩
theorem sgs_cons {ts : List Expr} (ht : SG B X a ca) (hts : SGs B X ts cb) (hs : (assignEach (a :: ts) X.env).map (·.2) = assign a X.env :: (assignEach ts X.env).map (·.2)) : SGs B X (a :: ts) (.cons ca cb) := by
  intro F H ρ σ vs l ρ' Q hr q hb k
  cases l with
  | nil => cases hb
  | cons d l =>
    obtain ⟨v, r, rfl, q1, q2⟩ := q
    obtain ⟨ρ1, b1, b2⟩ := obind_some (show (bindT B.np ca d ρ).bind (fun ρ => bindTs B.np cb l ρ) = some ρ' from hb)
    refine ggs_of (pgs_cons pg_gg pgs_ggs hs) ⟨v, r, rfl, ?_⟩
    refine ht F H ρ σ v d ρ1 _ hr q1 b1 fun σ1 r1 s1 => ?_
    refine hts F H ρ1 σ1 r l ρ' _ r1 q2 b2 fun σ2 r2 s2 => ?_
    exact k σ2 r2 (s1.trans s2 (fun i hi => List.mem_append_left _ hi) fun i hi => List.mem_append_right _ hi)
theorem bindTs_len {np : Nat} : ∀ {ct : C} {l : List D} {ρ ρ' : Rho} {ts : List Expr} {X : Cx} {B : Bs}, bindTs np ct l ρ = some ρ' → SGs B X ts ct → True := fun _ _ => trivial
theorem sg_tup {ts : List Expr} {k0 n : Nat} (hc : X.calm = true) (h : SGs B X ts ca) (hn : (assignEach ts X.env).length = n) (hst : (assignEach ts X.env).findIdx? (·.1) = none) (hlen : ∀ l ρ ρ', bindTs B.np ca l ρ = some ρ' → l.length = n) : SG B X (.Tuple ts k0 pos) (.tTup ca) := by
  intro F H ρ σ v d ρ' Q hr q hb k
  cases d with
  | tup l =>
    obtain ⟨a0, vs, rfl, g1, g2⟩ := q
    refine gg_of (pg_tup hc pgs_ggs hn hst) ⟨a0, vs, rfl, SqT.of (hr.same _ _ g1), by rw [g2.length]; exact hlen l ρ ρ' hb, ?_⟩
    exact h F H ρ σ vs l ρ' Q hr g2 hb k
  | _ => cases hb
def clen : C → Nat
  | .cons _ ts => clen ts + 1
  | _ => 0
theorem bindTs_length {np : Nat} : ∀ (ct : C) (l : List D) (ρ ρ' : Rho), bindTs np ct l ρ = some ρ' → l.length = clen ct
  | .nil, [], _, _, _ => rfl
  | .cons t ts, d :: l, ρ, ρ', h => by
    obtain ⟨ρ1, b1, b2⟩ := obind_some (show (bindT np t d ρ).bind (fun ρ => bindTs np ts l ρ) = some ρ' from h)
    have := bindTs_length ts l ρ1 ρ' b2
    show l.length + 1 = clen ts + 1
    omega
  | .nil, _ :: _, _, _, h => by cases h
  | .cons _ _, [], _, _, h => by cases h
  | .con _, l, _, _, h => by cases l <;> cases h
  | .slot _, l, _, _, h => by cases l <;> cases h
  | .bin _ _ _, l, _, _, h => by cases l <;> cases h
  | .neg _, l, _, _, h => by cases l <;> cases h
  | .notV _, l, _, _, h => by cases l <;> cases h
  | .andV _ _, l, _, _, h => by cases l <;> cases h
  | .orV _ _, l, _, _, h => by cases l <;> cases h
  | .cmp _ _ _, l, _, _, h => by cases l <;> cases h
  | .chain _ _ _ _ _, l, _, _, h => by cases l <;> cases h
  | .isN _, l, _, _, h => by cases l <;> cases h
  | .isNotN _, l, _, _, h => by cases l <;> cases h
  | .ite _ _ _, l, _, _, h => by cases l <;> cases h
  | .tup _, l, _, _, h => by cases l <;> cases h
  | .lst _, l, _, _, h => by cases l <;> cases h
  | .call _ _, l, _, _, h => by cases l <;> cases h
  | .call1 _ _, l, _, _, h => by cases l <;> cases h
  | .callS _ _, l, _, _, h => by cases l <;> cases h
  | .dict0, l, _, _, h => by cases l <;> cases h
  | .lrng _, l, _, _, h => by cases l <;> cases h
  | .bi _ _, l, _, _, h => by cases l <;> cases h
  | .bi2 _ _ _, l, _, _, h => by cases l <;> cases h
  | .isi _ _, l, _, _, h => by cases l <;> cases h
  | .sub _ _, l, _, _, h => by cases l <;> cases h
  | .slc _ _ _, l, _, _, h => by cases l <;> cases h
  | .join _ _, l, _, _, h => by cases l <;> cases h
  | .lc _ _ _ _ _, l, _, _, h => by cases l <;> cases h
  | .iVal _, l, _, _, h => by cases l <;> cases h
  | .iRng1 _, l, _, _, h => by cases l <;> cases h
  | .iRng2 _ _, l, _, _, h => by cases l <;> cases h
  | .tName _, l, _, _, h => by cases l <;> cases h
  | .tTup _, l, _, _, h => by cases l <;> cases h
  | .tNot _, l, _, _, h => by cases l <;> cases h
  | .tAnd _ _, l, _, _, h => by cases l <;> cases h
  | .tOr _ _, l, _, _, h => by cases l <;> cases h
  | .tVal _, l, _, _, h => by cases l <;> cases h
  | .sAsg _ _, l, _, _, h => by cases l <;> cases h
  | .sPar _ _ _ _, l, _, _, h => by cases l <;> cases h
  | .sSub _ _ _, l, _, _, h => by cases l <;> cases h
  | .sAug _ _ _, l, _, _, h => by cases l <;> cases h
  | .sExpr _, l, _, _, h => by cases l <;> cases h
  | .sIf _ _ _, l, _, _, h => by cases l <;> cases h
  | .sFor _ _ _, l, _, _, h => by cases l <;> cases h
  | .sWhile _ _, l, _, _, h => by cases l <;> cases h
  | .sRet _, l, _, _, h => by cases l <;> cases h
  | .sRetN, l, _, _, h => by cases l <;> cases h
  | .sPass, l, _, _, h => by cases l <;> cases h
  | .sNever, l, _, _, h => by cases l <;> cases h
end
end PV

/-! PvS5: comprehensions. -/
namespace PV
open PySem L2
theorem wipeS_len (ρ : Rho) : ∀ vs : List Nat, (wipeS ρ vs).length = ρ.length
  | [] => rfl
  | v :: vs => by unfold wipeS; rw [List.length_set, wipeS_len ρ vs]
theorem wipeS_out {ρ : Rho} {i : Nat} : ∀ {vs : List Nat}, i ∉ vs → (wipeS ρ vs)[i]? = ρ[i]?
  | [], _ => rfl
  | v :: vs, h => by
    unfold wipeS
    rw [List.getElem?_set_ne fun z => h (by rw [z]; exact List.mem_cons_self), wipeS_out fun z => h (List.mem_cons_of_mem _ z)]
theorem wipeS_in {ρ : Rho} {i : Nat} {d : D} : ∀ {vs : List Nat}, i ∈ vs → (wipeS ρ vs)[i]? ≠ some (.ow d)
  | [], h => by cases h
  | v :: vs, h => by
    unfold wipeS
    rw [List.getElem?_set]
    split
    · split
      · intro z; cases z
      · intro z; cases z
    · rename_i hne
      rcases List.mem_cons.mp h with e | h
      · exact absurd e.symm hne
      · exact wipeS_in h
theorem backS_len (ρ0 ρ : Rho) : ∀ vs : List Nat, (backS ρ0 ρ vs).length = ρ.length
  | [] => rfl
  | v :: vs => by
    unfold backS
    split
    · rw [List.length_set, backS_len ρ0 ρ vs]
    · exact backS_len ρ0 ρ vs
theorem backS_out {ρ0 ρ : Rho} {i : Nat} : ∀ {vs : List Nat}, i ∉ vs → (backS ρ0 ρ vs)[i]? = ρ[i]?
  | [], _ => rfl
  | v :: vs, h => by
    unfold backS
    have ih := backS_out (ρ0 := ρ0) (ρ := ρ) (i := i) (vs := vs) fun z => h (List.mem_cons_of_mem _ z)
    split
    · rw [List.getElem?_set_ne fun z => h (by rw [z]; exact List.mem_cons_self), ih]
    · exact ih
theorem backS_in {ρ0 ρ : Rho} (hl : ρ0.length = ρ.length) {i : Nat} : ∀ {vs : List Nat}, i ∈ vs → (backS ρ0 ρ vs)[i]? = ρ0[i]?
  | [], h => by cases h
  | v :: vs, h => by
    unfold backS
    by_cases hv : v = i
    · subst hv
      split
      · rename_i s hs
        have : v < (backS ρ0 ρ vs).length := by
          rw [backS_len, ← hl]
          exact (List.getElem?_eq_some_iff.mp hs).1
        rw [List.getElem?_set_self this, hs]
      · rename_i hs
        have h1 : ρ0.length ≤ v := List.getElem?_eq_none_iff.mp hs
        rw [hs]
        exact List.getElem?_eq_none_iff.mpr (by rw [backS_len, ← hl]; exact h1)
    · have hi : i ∈ vs := (List.mem_cons.mp h).resolve_left fun z => hv z.symm
      split
      · rw [List.getElem?_set_ne hv, backS_in hl hi]
      · exact backS_in hl hi
section
variable {K : PySem.W.Frag} {B : Bs} {σ σ2 : L2.St} {F F1 F2 F' H H1 H2 H' : Hp} {ρ ρ1 ρ2 ρ' : Rho} {v : V} {d : D} {vs : List Nat}
theorem Rel.wipe (h : Rel K B F H ρ σ) : ∀ {vs : List Nat}, (∀ v ∈ vs, B.np ≤ v) → Rel K B F H (wipeS ρ vs) (L2.wipe σ vs)
  | [], _ => h
  | v :: vs, hn => by
    unfold wipeS L2.wipe
    exact (h.wipe fun w hw => hn w (List.mem_cons_of_mem _ hw)).setUn (hn v List.mem_cons_self) none
theorem wipe_own {i : Nat} {p : Addr} (h : OwnAt (wipeS ρ vs) (L2.wipe σ vs) i p) : i ∉ vs ∧ OwnAt ρ σ i p := by
  obtain ⟨d, g1, g2⟩ := h
  have hi : i ∉ vs := fun z => wipeS_in z g1
  rw [wipeS_out hi] at g1
  rw [L2.wipe_out hi] at g2
  exact ⟨hi, d, g1, g2⟩
theorem wipe_same (h1 : σ2.length = σ.length) (h : ∀ i : Nat, i ∉ vs → σ2[i]? = (L2.wipe σ vs)[i]?) : L2.wipe σ2 vs = L2.wipe σ vs := by
  refine List.ext_getElem? fun i => ?_
  by_cases hi : i ∈ vs
  · have one : ∀ τ : L2.St, (L2.wipe τ vs)[i]? = if i < τ.length then some none else none := fun τ => by
      by_cases hl : i < τ.length
      · rw [if_pos hl]
        have hl' : i < (L2.wipe τ vs).length := by rw [L2.wipe_length]; exact hl
        rw [List.getElem?_eq_getElem hl']
        cases e : (L2.wipe τ vs)[i] with
        | none => rfl
        | some x =>
          have q := (L2.wipe_some (σ := τ) (i := i) (x := x) (vs := vs) (by rw [List.getElem?_eq_getElem hl', e])).2
          exact absurd hi q
      · rw [if_neg hl]
        exact List.getElem?_eq_none_iff.mpr (by rw [L2.wipe_length]; omega)
    rw [one, one, h1]
  · rw [L2.wipe_out hi, h i hi]
/-- the state between two turns of a comprehension that began at F1, H1, ρ1, σ -/
structure Lw (K : PySem.W.Frag) (B : Bs) (vs : List Nat) (σ : L2.St) (F1 H1 : Hp) (ρ1 : Rho) (σ2 : L2.St) (F2 H2 : Hp) (ρ2 : Rho) : Prop where
  rel : Rel K B F2 H2 ρ2 σ2
  same : Same F1 F2
  pres : ∀ b o, H1 b = some o → (∀ i, ¬ OwnAt ρ1 σ i b) → H2 b = some o
  dom : ∀ b o, H1 b = some o → ∃ o', H2 b = some o'
  own : ∀ i p, OwnAt ρ2 σ2 i p → OwnAt ρ1 σ i p
  fr : ∀ b o, F1 b = none → H1 b = some o → (∀ i, ¬ OwnAt ρ1 σ i b) → F2 b = none
  live : ∀ i, i ∉ vs → Live ρ1 i → Live ρ2 i
theorem Lw.post (a : Lw K B vs σ F1 H1 ρ1 σ2 F H ρ) (b : Post K B σ2 F H ρ F2 H2 ρ2) : Lw K B vs σ F1 H1 ρ1 σ2 F2 H2 ρ2 where
  rel := b.rel
  same := a.same.trans b.same
  pres := fun c o e n => b.pres c o (a.pres c o e n) fun i q => n i (a.own i c q)
  dom := fun c o e => by
    obtain ⟨o', e'⟩ := a.dom c o e
    exact b.dom c o' e'
  own := fun i p q => a.own i p (b.own i p q)
  fr := fun c o e h n => b.fr c o (a.fr c o e h n) (a.pres c o h n) fun i q => n i (a.own i c q)
  live := fun i hi l => b.live i (a.live i hi l)
theorem Lw.bind {σ3 : L2.St} {l : List Nat} (a : Lw K B vs σ F1 H1 ρ1 σ2 F H ρ) (r : Rel K B F H ρ2 σ3) (s : Stay l ρ σ2 ρ2 σ3) (hl : ∀ i ∈ l, i ∈ vs) : Lw K B vs σ F1 H1 ρ1 σ3 F H ρ2 where
  rel := r
  same := a.same
  pres := a.pres
  dom := a.dom
  own := fun i p q => a.own i p (s.own i p q)
  fr := a.fr
  live := fun i hi q => by
    have := a.live i hi q
    unfold Live
    rw [(s.eq i fun z => hi (hl i z)).2]
    exact this
theorem Lw.wipe (a : Lw K B vs σ F1 H1 ρ1 σ2 F H ρ) (hn : ∀ v ∈ vs, B.np ≤ v) : Lw K B vs σ F1 H1 ρ1 (L2.wipe σ2 vs) F H (wipeS ρ vs) where
  rel := a.rel.wipe hn
  same := a.same
  pres := a.pres
  dom := a.dom
  own := fun i p q => a.own i p (wipe_own q).2
  fr := a.fr
  live := fun i hi q => by
    have := a.live i hi q
    unfold Live
    rw [wipeS_out hi]
    exact this
theorem Lw.start (r : Rel K B F1 H1 ρ1 σ) (hn : ∀ v ∈ vs, B.np ≤ v) : Lw K B vs σ F1 H1 ρ1 (L2.wipe σ vs) F1 H1 (wipeS ρ1 vs) where
  rel := r.wipe hn
  same := Same.refl _
  pres := fun _ _ e _ => e
  dom := fun _ o e => ⟨o, e⟩
  own := fun i p q => (wipe_own q).2
  fr := fun _ _ e _ _ => e
  live := fun i hi q => by
    unfold Live
    rw [wipeS_out hi]
    exact q
/-- a thing that is not of the beginning is written, or new -/
theorem Lw.put {p : Addr} {o' : HO} (a : Lw K B vs σ F1 H1 ρ1 σ2 F H ρ) (r1 : Rel K B F1 H1 ρ1 σ) (hp : H1 p = none) (hf : F p = none) : Lw K B vs σ F1 H1 ρ1 σ2 F (upd H p o') ρ := by
  have no : ∀ i, ¬ OwnAt ρ σ2 i p := fun i q => (r1.newFree hp).2 i (a.own i p q)
  have r' : Rel K B F (upd H p o') ρ σ2 := by
    cases e : H p with
    | none => exact (Post.new a.rel e).rel
    | some o => exact a.rel.write e hf no (r1.bfree hp)
  refine ⟨r', a.same, fun b x q n => ?_, fun b x q => ?_, a.own, a.fr, a.live⟩
  · rw [upd_ne (ne_of_none q hp)]
    exact a.pres b x q n
  · rw [upd_ne (ne_of_none q hp)]
    exact a.dom b x q
/-- the comprehension is left -/
theorem Lw.back (a : Lw K B vs σ F1 H1 ρ1 (L2.wipe σ vs) F2 H2 ρ2) (r1 : Rel K B F1 H1 ρ1 σ) (ho : ∀ v ∈ vs, isOw ρ1[v]? = false) : Post K B σ F1 H1 ρ1 F2 H2 (backS ρ1 ρ2 vs) := by
  have hl : ρ1.length = ρ2.length := by rw [r1.len, a.rel.len, L2.wipe_length]
  have ow' : ∀ i p, OwnAt (backS ρ1 ρ2 vs) σ i p → i ∉ vs ∧ OwnAt ρ2 (L2.wipe σ vs) i p := fun i p ⟨d, g1, g2⟩ => by
    have hi : i ∉ vs := fun z => by
      rw [backS_in hl z] at g1
      have := ho i z
      rw [g1] at this
      cases this
    rw [backS_out hi] at g1
    exact ⟨hi, d, g1, by rw [L2.wipe_out hi]; exact g2⟩
  have r := a.rel
  refine ⟨a.same, ⟨r.same, by rw [backS_len, r.len, L2.wipe_length], fun i => ?_, fun i j p x y => r.dis i j p (ow' i p x).2 (ow' j p y).2, r.sameB, r.pre, r.dom, r.frz, fun i p g x => r.loc i p g (ow' i p x).2, fun i p g x => r.par i p g (ow' i p x).2, r1.arg⟩, a.pres, a.dom, fun i p q => a.own i p (ow' i p q).2, a.fr, fun i q => ?_⟩
  · by_cases hi : i ∈ vs
    · rw [backS_in hl hi]
      have s := r1.sl i
      have n := ho i hi
      cases g : ρ1[i]? with
      | none => trivial
      | some w =>
        rw [g] at s n
        cases w with
        | un => trivial
        | fz d =>
          obtain ⟨v', q1, q2⟩ := s
          exact ⟨v', q1, Rp.mono a.same d v' q2⟩
        | ow d => cases n
    · rw [backS_out hi]
      have s := r.sl i
      rw [L2.wipe_out hi] at s
      exact s
  · by_cases hi : i ∈ vs
    · unfold Live
      rw [backS_in hl hi]
      exact q
    · have := a.live i hi q
      unfold Live
      rw [backS_out hi]
      exact this
end
/-! ### the tests of a comprehension -/
abbrev testsOf (ifs : List Expr) (env : Env) : Sem Bool := forIn ifs true fun c r => if r = true then do let ok ← isTrue c env (eval c env); pure (ForInStep.yield ok) else pure (ForInStep.yield r)
def STs (B : Bs) (X : Cx) (ifs : List Expr) (m : Rho → R Bool) : Prop := ∀ F H ρ σ Q, Rel X.K B F H ρ σ → (∃ b ρ', m ρ = .ok b ρ' ∧ ∀ F' H', Post X.K B σ F H ρ F' H' ρ' → Q b H') →
  ∀ pins s, Inv X pins σ H s → wpAny (model X.prog X.w) X.A (testsOf ifs X.env) (TP X pins σ Q) X.xe s
section
variable {B : Bs} {X : Cx} {e a b c tg iter elt : Expr} {ifs : List Expr} {pos p : Pos} {np : Nat} {cf : Nat → List Sl → CRes} {ca cb cc ct ci cel : C} {x : Str}
theorem sts_nil : STs B X [] (evT np cf .nil) := by
  intro F H ρ σ Q hr ⟨b, ρ', hm, k⟩ pins s I
  cases hm
  exact pts_nil.run pins s σ H Q I (k F H (Post.refl hr))
theorem sts_one (h : ST B X c (evT np cf cc)) : STs B X [c] (evT np cf cc) := by
  intro F H ρ σ Q hr hm pins s I
  exact (pts_one pt_gt).run pins s σ H Q I (h F H ρ σ Q hr hm)
/-- the context of a block -/
abbrev Blk (X : Cx) (scope : Scope) (s : Shared) (H : Hp) (C : Addr) (cl : List (Str × Addr)) (fp : List Addr) : Cx := X.blk s H scope (compEnvC scope cl C X.env) fp
def bG (X : Cx) (scope : Scope) (tg : Expr) : TG := fun v σ H Q => ∀ s0 H0 C cl fp, GG (Blk X scope s0 H0 C cl fp) tg v σ H Q
def bT (X : Cx) (scope : Scope) (ifs : List Expr) : TT := fun σ H Q => ∀ s0 H0 C cl fp pins s, Inv (Blk X scope s0 H0 C cl fp) pins σ H s → wpAny (model X.prog X.w) X.A (testsOf ifs (compEnvC scope cl C X.env)) (TP (Blk X scope s0 H0 C cl fp) pins σ Q) (fun _ _ => False) s
def bE (X : Cx) (scope : Scope) (e : Expr) : TE := fun σ H Q => ∀ s0 H0 C cl fp, GE (Blk X scope s0 H0 C cl fp) e σ H Q
theorem pg_bG {scope : Scope} (s : Shared) (H : Hp) (C : Addr) (cl : List (Str × Addr)) (fp : List Addr) : PG (X.blk s H scope (compEnvC scope cl C X.env) fp) tg (bG X scope tg) := ⟨fun pins s' σ H v u Q I r h => h _ _ _ _ _ pins s' u I r⟩
theorem pts_bT {scope : Scope} (s : Shared) (H : Hp) (C : Addr) (cl : List (Str × Addr)) (fp : List Addr) : PTs (X.blk s H scope (compEnvC scope cl C X.env) fp) ifs (bT X scope ifs) := ⟨fun pins s' σ H Q I h => h _ _ _ _ _ pins s' I⟩
theorem pe_bE {scope : Scope} (s : Shared) (H : Hp) (C : Addr) (cl : List (Str × Addr)) (fp : List Addr) : PE (X.blk s H scope (compEnvC scope cl C X.env) fp) elt (bE X scope elt) := ⟨fun pins s' σ H Q I h => h _ _ _ _ _ pins s' I⟩
/-- [elt for tg in iter if ..], the list's reading -/
theorem lc_run {scope : Scope} {own : List (Str × Nat)} {vs : List Nat} (hc : X.calm = true) (hnp : np = B.np) (hi : SI B X tg iter (evI np cf ci)) (hv : own.map (·.2) = vs) (htg : ∀ i ∈ tgS ct, i ∈ vs)
    (hg : ∀ s H C cl fp, SG B (Blk X scope s H C cl fp) tg ct) (ht : ∀ s H C cl fp, STs B (Blk X scope s H C cl fp) ifs (evT np cf cc)) (he : ∀ s H C cl fp, SE B (Blk X scope s H C cl fp) elt (evE np cf cel))
    {F H : Hp} {ρ ρ' : Rho} {σ : L2.St} {r : RV} {Q : VK} (hr : Rel X.K B F H ρ σ) (hm : evE np cf (.lc cel ct ci cc vs) ρ = .ok r ρ') (k : ∀ v F' H', Post X.K B σ F H ρ F' H' ρ' → RvOk X.K F' H' ρ' σ r v → Fresh H r v → Q v H') :
    tLc (GI X tg iter) (bG X scope tg) (bT X scope ifs) (bE X scope elt) (own.map (·.2)) σ H Q := by
  subst hnp
  rw [hv]
  obtain ⟨ds, ρ1, h1, m1⟩ := bind_ok hm
  split at m1
  · cases m1
  · rename_i hany
    obtain ⟨accF, ρ2, h2, m2⟩ := bind_ok m1
    cases m2
    have hn : ∀ v ∈ vs, B.np ≤ v ∧ isOw ρ1[v]? = false := fun v hv' => by
      have hany' : (vs.any fun v => isOw ρ1[v]? || decide (v < B.np)) = false := by
        cases q : (vs.any fun v => isOw ρ1[v]? || decide (v < B.np)) with
        | false => rfl
        | true => exact absurd q hany
      have := List.any_eq_false.mp hany' v hv'
      simp only [Bool.or_eq_true, decide_eq_true_eq, not_or] at this
      exact ⟨by omega, by simpa using this.1⟩
    refine hi F H ρ σ _ hr ⟨ds, ρ1, h1, fun J F1 H1 P1 it => ?_⟩
    have r1 := P1.rel
    intro Da hD
    refine ⟨fun i m Hh => m = ds.length - i ∧ i ≤ ds.length ∧ ∃ Fi ρi acc vacc, Lw X.K B vs σ F1 H1 ρ1 (L2.wipe σ vs) Fi Hh ρi ∧ Hh Da = some (.lst vacc) ∧ Fi Da = none ∧ RpL X.K Fi acc vacc ∧
        lcL (bindT B.np ct) (evT B.np cf cc) (evE B.np cf cel) vs (ds.drop i) acc ρi = .ok accF ρ2, ⟨ds.length, by simp, Nat.zero_le _, F1, wipeS ρ1 vs, [], [], ?_, upd_same, (r1.newFree hD).1, rfl, h2⟩, ?_⟩
    · exact (Lw.start r1 fun v hv' => (hn v hv').1).put r1 hD (r1.newFree hD).1
    · rintro i m Hh ⟨rfl, hle, Fi, ρi, acc, vacc, L, hDa, hFa, hacc, hrest⟩
      by_cases hlt : i < ds.length
      · right
        refine ⟨it.go i Hh (L.same.trans L.rel.same) hlt, fun H' => ∃ Fi ρi acc vacc, Lw X.K B vs σ F1 H1 ρ1 (L2.wipe σ vs) Fi H' ρi ∧ H' Da = some (.lst vacc) ∧ Fi Da = none ∧ RpL X.K Fi acc vacc ∧
          lcL (bindT B.np ct) (evT B.np cf cc) (evE B.np cf cel) vs (ds.drop (i + 1)) acc ρi = .ok accF ρ2, fun H' hN => ⟨ds.length - (i + 1), by omega, rfl, hlt, hN⟩, fun x H' hy => ?_⟩
        obtain ⟨d, hd, yok⟩ := it.yld i Hh x H' (L.same.trans L.rel.same) hy hlt
        obtain ⟨F2, P2, qx⟩ := yok.step L.same L.rel
        have L2' := L.post P2
        rw [List.drop_eq_getElem_cons hlt] at hrest
        rw [List.getElem?_eq_getElem hlt] at hd
        cases hd
        unfold lcL at hrest
        have noD : ∀ {ρx : Rho} {σx : L2.St} {Fx Hx : Hp}, Lw X.K B vs σ F1 H1 ρ1 σx Fx Hx ρx → ∀ j, ¬ OwnAt ρx σx j Da := fun Lx j q => (r1.newFree hD).2 j (Lx.own j Da q)
        have hDa2 : H' Da = some (.lst vacc) := P2.pres Da _ hDa (noD L)
        have hFa2 : F2 Da = none := P2.fr Da _ hFa hDa (noD L)
        split at hrest
        · cases hrest
        · rename_i ρ3 hb
          obtain ⟨bb, ρ4, t1, hrest⟩ := bind_ok hrest
          intro s0 H0 C cl fp
          refine hg s0 H0 C cl fp F2 H' ρi (L2.wipe σ vs) x _ ρ3 _ L2'.rel qx hb fun σ3 r3 st3 => ?_
          have L3 := L2'.bind r3 st3 htg
          have hw : L2.wipe σ3 vs = L2.wipe σ vs := wipe_same (by rw [st3.len, L2.wipe_length]) fun j hj => (st3.eq j fun z => hj (htg j z)).1
          refine ⟨hw, fun s0 H0 C cl fp pins s I => ?_⟩
          refine ht s0 H0 C cl fp F2 H' ρ3 σ3 _ r3 ⟨bb, ρ4, t1, fun F4 H4 P4 => ?_⟩ pins s I
          have L4 := L3.post P4
          have hDa4 : H4 Da = some (.lst vacc) := P4.pres Da _ hDa2 (noD L3)
          have hFa4 : F4 Da = none := P4.fr Da _ hFa2 hDa2 (noD L3)
          have hacc4 : RpL X.K F4 acc vacc := RpL.mono (P2.same.trans P4.same) acc vacc hacc
          cases bb with
          | false =>
            rw [if_neg Bool.false_ne_true]
            have L5 := L4.wipe fun v hv' => (hn v hv').1
            rw [hw] at L5
            exact ⟨F4, wipeS ρ4 vs, acc, vacc, L5, hDa4, hFa4, hacc4, hrest⟩
          | true =>
            rw [if_pos rfl]
            have hrest : (evE B.np cf cel ρ4).bind (fun r ρ3 => (toFz ρ3 r).bind fun y ρ4 => if acc.length < maxLen then lcL (bindT B.np ct) (evT B.np cf cc) (evE B.np cf cel) vs (ds.drop (i + 1)) (acc ++ [y]) (wipeS ρ4 vs) else .fail) = .ok accF ρ2 := hrest
            obtain ⟨ry, ρ5, e1, hrest⟩ := bind_ok hrest
            obtain ⟨y, ρ6, e2, hrest⟩ := bind_ok hrest
            split at hrest
            · rename_i hlen
              intro s0 H0 C cl fp
              refine (he s0 H0 C cl fp).sd F4 H4 ρ4 σ3 _ L4.rel ⟨y, ρ6, by show (evE B.np cf cel ρ4).bind _ = _; rw [e1]; exact e2, fun vy F6 H6 P6 qy => ?_⟩
              have L6 := L4.post P6
              have hDa6 : H6 Da = some (.lst vacc) := P6.pres Da _ hDa4 (noD L4)
              have hFa6 : F6 Da = none := P6.fr Da _ hFa4 hDa4 (noD L4)
              refine ⟨vacc, hDa6, ?_, ?_⟩
              · rw [hacc.length, sizeLine_eq]
                unfold maxLen at hlen
                omega
              · have L7 := (L6.put (p := Da) (o' := .lst (vacc ++ [vy])) r1 hD hFa6).wipe fun v hv' => (hn v hv').1
                rw [hw] at L7
                exact ⟨F6, wipeS ρ6 vs, acc ++ [y], vacc ++ [vy], L7, upd_same, hFa6, (RpL.mono P6.same acc vacc hacc4).append (RpL.one qy), hrest⟩
            · cases hrest
      · left
        have ei : i = ds.length := by omega
        refine ⟨it.stop i Hh (L.same.trans L.rel.same) (by omega), ?_⟩
        rw [ei, List.drop_length] at hrest
        cases hrest
        have PB := L.back r1 fun v hv' => (hn v hv').2
        refine k _ Fi Hh (P1.trans PB) ⟨Da, _, rfl, hDa, hFa, ⟨vacc, rfl, hacc⟩, fun j q => (r1.newFree hD).2 j (PB.own j Da q)⟩ ?_
        exact Fresh.back P1 (r := .ow _) fun p' e => by cases e; exact hD
theorem se_lc {scope : Scope} {own : List (Str × Nat)} {vs : List Nat} (hc : X.calm = true) (hN : X.N.Nodup) (hnp : np = B.np) (hi : SI B X tg iter (evI np cf ci)) (ok : BlkOk X.N X.env.scope scope own) (hv : own.map (·.2) = vs) (htg : ∀ i ∈ tgS ct, i ∈ vs)
    (hg : ∀ s H C cl fp, SG B (Blk X scope s H C cl fp) tg ct) (ht : ∀ s H C cl fp, STs B (Blk X scope s H C cl fp) ifs (evT np cf cc)) (he : ∀ s H C cl fp, SE B (Blk X scope s H C cl fp) elt (evE np cf cel)) (hs : ∀ x, foldedSetIterable iter X.env x = pure x) :
    SE B X (.ListComp elt [⟨tg, iter, ifs, 0⟩] scope pos) (evE np cf (.lc cel ct ci cc vs)) := by
  intro F H ρ σ Q hr ⟨r, ρ', hm, k⟩
  refine ge_of (pe_lc hc hN pi_gi ok pg_bG pts_bT pe_bE hs) ?_
  exact lc_run hc hnp hi hv htg hg ht he hr hm k
end
end PV

/-! PvS6: statements. -/
namespace PV
open PySem L2
def GS (X : Cx) (st : Stmt) : TS := fun D σ H => ∀ pins s, Inv X pins σ H s → wpAny (model X.prog X.w) X.A (exec st X.env) (SP X pins D) X.xe s
def GSs (X : Cx) (st : List Stmt) : TS := fun D σ H => ∀ pins s, Inv X pins σ H s → wpAny (model X.prog X.w) X.A (execs st X.env) (SP X pins D) X.xe s
section
variable {X : Cx} {st : Stmt} {sts : List Stmt} {σ : L2.St} {H : Hp} {E : Ends}
theorem ps_gs : PS X st (GS X st) := ⟨fun pins s σ H D I h => h pins s I⟩
theorem pss_gss : PSs X sts (GSs X sts) := ⟨fun pins s σ H D I h => h pins s I⟩
theorem gs_of {t : TS} (h : PS X st t) (q : t E σ H) : GS X st E σ H := fun pins s I => h.run pins s σ H E I q
theorem gss_of {t : TS} (h : PSs X sts t) (q : t E σ H) : GSs X sts E σ H := fun pins s I => h.run pins s σ H E I q
end
/-- a value that is handed back -/
def RetOk (K : PySem.W.Frag) (B : Bs) (F H : Hp) (ρ : Rho) (σ : L2.St) : RV → V → Prop
  | .fz d, v => Rp K F d v
  | .ow d, v => ∃ p o, v = .ref p ∧ H p = some o ∧ F p = none ∧ RpO K F d o ∧ (∀ i, ¬ OwnAt ρ σ i p) ∧ B.H p = none
  | .bor _, _ => False
/-- what follows a statement -/
def Fin (K : PySem.W.Frag) (B : Bs) (F : Hp) (E : Ends) : O → Prop
  | .next ρ' => ∀ σ' F' H', Same F F' → Rel K B F' H' ρ' σ' → E.nx σ' H'
  | .brk ρ' => ∀ σ' F' H', Same F F' → Rel K B F' H' ρ' σ' → E.bk σ' H'
  | .cont ρ' => ∀ σ' F' H', Same F F' → Rel K B F' H' ρ' σ' → E.ct σ' H'
  | .ret r ρ' => ∀ v σ' F' H', Same F F' → Rel K B F' H' ρ' σ' → RetOk K B F' H' ρ' σ' r v → E.rt v H'
  | .fail => False
theorem Fin.mono {K : PySem.W.Frag} {B : Bs} {F F1 : Hp} {E : Ends} (s : Same F F1) : ∀ {o : O}, Fin K B F E o → Fin K B F1 E o
  | .next _, h => fun σ' F' H' q => h σ' F' H' (s.trans q)
  | .brk _, h => fun σ' F' H' q => h σ' F' H' (s.trans q)
  | .cont _, h => fun σ' F' H' q => h σ' F' H' (s.trans q)
  | .ret _ _, h => fun v σ' F' H' q => h v σ' F' H' (s.trans q)
  | .fail, h => h
def SS (B : Bs) (X : Cx) (st : Stmt) (m : Rho → O) : Prop := ∀ F H ρ σ E, Rel X.K B F H ρ σ → Fin X.K B F E (m ρ) → GS X st E σ H
def SSs (B : Bs) (X : Cx) (sts : List Stmt) (m : Rho → O) : Prop := ∀ F H ρ σ E, Rel X.K B F H ρ σ → Fin X.K B F E (m ρ) → GSs X sts E σ H
/-- a slot's word of a value that no name holds yet -/
def SvOk (K : PySem.W.Frag) (B : Bs) (F H : Hp) (ρ : Rho) (σ : L2.St) : Sl → V → Prop
  | .fz d, v => Rp K F d v
  | .ow d, v => ∃ p o, v = .ref p ∧ H p = some o ∧ F p = none ∧ RpO K F d o ∧ (∀ i, ¬ OwnAt ρ σ i p) ∧ B.H p = none
  | .un, _ => False
section
variable {K : PySem.W.Frag} {B : Bs} {F H F1 H1 F2 H2 : Hp} {ρ ρ1 ρ2 : Rho} {σ : L2.St}
theorem SvOk.step (a : Post K B σ F1 H1 ρ1 F2 H2 ρ2) : ∀ {s : Sl} {v : V}, SvOk K B F1 H1 ρ1 σ s v → SvOk K B F2 H2 ρ2 σ s v
  | .fz d, v, h => Rp.mono a.same d v h
  | .ow d, v, h => by
    obtain ⟨p, o, rfl, h1, h2, h3, h4, h5⟩ := h
    exact ⟨p, o, rfl, a.pres p o h1 h4, a.fr p o h2 h1 h4, h3.mono a.same, fun i q => h4 i (a.own i p q), h5⟩
  | .un, _, h => h.elim
theorem settle_ok {r : RV} {s : Sl} {v : V} (h : Rel K B F1 H1 ρ1 σ) (q : RvOk K F1 H1 ρ1 σ r v) (hB : ∀ d p, r = .ow d → v = .ref p → B.H p = none) (e : settle ρ1 r = .ok s ρ2) : ∃ F2, Post K B σ F1 H1 ρ1 F2 H1 ρ2 ∧ SvOk K B F2 H1 ρ2 σ s v := by
  cases r with
  | ow d =>
    cases e
    obtain ⟨p, o, rfl, h1, h2, h3, h4⟩ := q
    exact ⟨F1, Post.refl h, p, o, rfl, h1, h2, h3, h4, hB d p rfl rfl⟩
  | fz d =>
    cases e
    exact ⟨F1, Post.refl h, q⟩
  | bor i =>
    obtain ⟨d, ρ3, e1, e2⟩ := bind_ok (show (toFz ρ1 (.bor i)).bind (fun d ρ => R.ok (Sl.fz d) ρ) = .ok s ρ2 from e)
    cases e2
    obtain ⟨F2, P, q2⟩ := (Post.refl h).toFz h q trivial e1
    exact ⟨F2, P, q2⟩
theorem SvOk.put {s : Sl} {v : V} {i : Nat} (h : Rel K B F H ρ σ) (q : SvOk K B F H ρ σ s v) (hn : B.np ≤ i) (hi : i < ρ.length) : Rel K B F H (ρ.set i s) (σ.set i (some v)) := by
  cases s with
  | un => exact q.elim
  | fz d => exact h.setFz hn hi q
  | ow d =>
    obtain ⟨p, o, rfl, g1, g2, g3, g4, g5⟩ := q
    exact h.setOw hn hi g1 g2 g3 g4 g5
/-- another value's word behind a store -/
theorem SvOk.other {s1 s2 : Sl} {v1 v2 : V} {i : Nat} (hi : i < ρ.length) (hl : ρ.length = σ.length) (hne : ∀ d1 d2, s1 = .ow d1 → s2 = .ow d2 → v1 ≠ v2) (q : SvOk K B F H ρ σ s2 v2) : SvOk K B F H (ρ.set i s1) (σ.set i (some v1)) s2 v2 := by
  cases s2 with
  | un => exact q
  | fz d => exact q
  | ow d =>
    obtain ⟨p, o, rfl, g1, g2, g3, g4, g5⟩ := q
    refine ⟨p, o, rfl, g1, g2, g3, fun j ⟨d', e1, e2⟩ => ?_, g5⟩
    by_cases hj : j = i
    · subst hj
      rw [List.getElem?_set_self hi] at e1
      rw [List.getElem?_set_self (by rw [← hl]; exact hi)] at e2
      cases e1
      cases e2
      exact hne d' d rfl rfl rfl
    · rw [List.getElem?_set_ne (Ne.symm hj)] at e1 e2
      exact g4 j ⟨d', e1, e2⟩
end
section
variable {B : Bs} {X : Cx} {e a b c tg iter : Expr} {pos pos' : Pos} {cf : Nat → List Sl → CRes} {ca cb cc ct ci : C} {x : Str} {st : Stmt} {sts body : List Stmt}
theorem ss_never {st : Stmt} : SS B X st (evS B.np cf .sNever) := fun _ _ _ _ _ _ h => h.elim
theorem ss_pass : SS B X (.Pass pos) (evS B.np cf .sPass) := by
  intro F H ρ σ E hr h
  exact gs_of ps_pass (h σ F H (Same.refl F) hr)
theorem sss_nil : SSs B X [] (evSs B.np cf .nil) := by
  intro F H ρ σ E hr h
  exact gss_of pss_nil (h σ F H (Same.refl F) hr)
theorem sss_cons (h1 : SS B X st (evS B.np cf ca)) (h2 : SSs B X sts (evSs B.np cf cb)) : SSs B X (st :: sts) (evSs B.np cf (.cons ca cb)) := by
  intro F H ρ σ E hr h
  refine gss_of (pss_cons ps_gs pss_gss) ?_
  have h : Fin X.K B F E (match evS B.np cf ca ρ with | .next ρ => evSs B.np cf cb ρ | o => o) := h
  refine h1 F H ρ σ _ hr ?_
  cases q : evS B.np cf ca ρ with
  | next ρ1 =>
    rw [q] at h
    intro σ' F' H' s r
    exact h2 F' H' ρ1 σ' E r (Fin.mono s h)
  | ret r ρ1 => rw [q] at h; exact h
  | brk ρ1 => rw [q] at h; exact h
  | cont ρ1 => rw [q] at h; exact h
  | fail => rw [q] at h; exact h
theorem ss_expr (he : SE B X e (evE B.np cf ca)) (hs : swapsWith e none pos.line X.env = pure false) : SS B X (.Expr e pos) (evS B.np cf (.sExpr ca)) := by
  intro F H ρ σ E hr h
  have h : Fin X.K B F E (match evE B.np cf ca ρ with | .ok _ ρ => .next ρ | .fail => .fail) := h
  cases q : evE B.np cf ca ρ with
  | fail => rw [q] at h; exact h.elim
  | ok r ρ1 =>
    rw [q] at h
    refine gs_of (ps_expr pe_ge hs) (he F H ρ σ _ hr ⟨r, ρ1, q, fun v F1 H1 P _ _ => ?_⟩)
    exact h σ F1 H1 P.same P.rel
/-- what a name's store does -/
theorem asg_run {i : Nat} {E : Ends} {F H F1 H1 : Hp} {ρ ρ1 : Rho} {σ : L2.St} {r : RV} {v : V} (hr : Rel X.K B F H ρ σ) (P : Post X.K B σ F H ρ F1 H1 ρ1) (q : RvOk X.K F1 H1 ρ1 σ r v) (f : Fresh H r v) (h : Fin X.K B F E (asgN B.np i r ρ1)) : E.nx (σ.set i (some v)) H1 := by
  unfold asgN at h
  split at h
  · rename_i s ρ2 hz
    split at h
    · rename_i ρ3 hset
      obtain ⟨h1, h2, rfl⟩ := setSl_some hset
      obtain ⟨F2, P2, q2⟩ := settle_ok P.rel q (fun d p e1 e2 => by subst e1; exact hr.bfree (f p e2)) hz
      exact h _ F2 H1 (P.same.trans P2.same) (q2.put P2.rel h1 h2)
    · exact h.elim
  · exact h.elim
theorem ss_set {i : Nat} (hN : X.N.Nodup) (hi : X.N[i]? = some x) (hx : Loc X.env.scope x) (hs : swapsWith e (some (.Name x pos')) pos.line X.env = pure false) (hf : X.fn x = true ∨ X.env.scope.names.lookup x = some .local) (he : SE B X e (evE B.np cf ca)) :
    SS B X (.Assign [.Name x pos'] e pos) (evS B.np cf (.sAsg (.tName i) ca)) := by
  intro F H ρ σ E hr h
  have h : Fin X.K B F E (match evE B.np cf ca ρ with | .ok r ρ => asgN B.np i r ρ | .fail => .fail) := h
  cases q : evE B.np cf ca ρ with
  | fail => rw [q] at h; exact h.elim
  | ok r ρ1 =>
    rw [q] at h
    refine gs_of (ps_set hN hi hx pe_ge hs hf) (he F H ρ σ _ hr ⟨r, ρ1, q, fun v F1 H1 P q f => ?_⟩)
    exact asg_run hr P q f h
/-- name = [..] on one line, the name a local -/
theorem ss_setLc {i : Nat} {elt : Expr} {ifs : List Expr} {scope : Scope} {own : List (Str × Nat)} {vs : List Nat} {py spos : Pos} {cel : C} (hc : X.calm = true) (hN : X.N.Nodup) (hy : X.N[i]? = some x) (hyl : X.env.scope.names.lookup x = some .local)
    (hsw : swapsWith (.ListComp elt [⟨tg, iter, ifs, 0⟩] scope pos) (some (.Name x py)) spos.line X.env = pure true) (hi : SI B X tg iter (evI B.np cf ci)) (ok : BlkOk X.N X.env.scope scope own) (hv : own.map (·.2) = vs) (htg : ∀ i ∈ tgS ct, i ∈ vs)
    (hg : ∀ s H C cl fp, SG B (Blk X scope s H C cl fp) tg ct) (ht : ∀ s H C cl fp, STs B (Blk X scope s H C cl fp) ifs (evT B.np cf cc)) (he : ∀ s H C cl fp, SE B (Blk X scope s H C cl fp) elt (evE B.np cf cel)) (hs : ∀ x, foldedSetIterable iter X.env x = pure x) :
    SS B X (.Assign [.Name x py] (.ListComp elt [⟨tg, iter, ifs, 0⟩] scope pos) spos) (evS B.np cf (.sAsg (.tName i) (.lc cel ct ci cc vs))) := by
  intro F H ρ σ E hr h
  have h : Fin X.K B F E (match evE B.np cf (.lc cel ct ci cc vs) ρ with | .ok r ρ => asgN B.np i r ρ | .fail => .fail) := h
  cases q : evE B.np cf (.lc cel ct ci cc vs) ρ with
  | fail => rw [q] at h; exact h.elim
  | ok r ρ1 =>
    rw [q] at h
    refine gs_of (ps_setLc hc hN hy hyl hsw pi_gi ok pg_bG pts_bT pe_bE hs) ?_
    exact lc_run hc rfl hi hv htg hg ht he hr q fun v F1 H1 P q f => asg_run hr P q f h
/-- (a, b) = value -/
theorem ss_asg (hne : ∀ i, ct ≠ .tName i) (hs : swapsWithSole [tg] e pos.line X.env = pure false) (hw : swappedStores [tg] e X.env = pure none) (h1 : (assignEach [tg] X.env).map (·.2) = [assign tg X.env]) (he : SE B X e (evE B.np cf ca)) (hg : SG B X tg ct) :
    SS B X (.Assign [tg] e pos) (evS B.np cf (.sAsg ct ca)) := by
  intro F H ρ σ E hr h
  have h : Fin X.K B F E (match evE B.np cf ca ρ with | .ok r ρ => (match toFz ρ r with | .ok d ρ => (match bindT B.np ct d ρ with | some ρ => .next ρ | none => .fail) | .fail => .fail) | .fail => .fail) := by
    cases ct <;> first | exact absurd rfl (hne _) | exact h
  cases q : evE B.np cf ca ρ with
  | fail => rw [q] at h; exact h.elim
  | ok r ρ1 =>
    rw [q] at h
    refine gs_of (ps_asg pe_ge pg_gg hs hw h1) (he F H ρ σ _ hr ⟨r, ρ1, q, fun v F1 H1 P q f => ?_⟩)
    cases z : toFz ρ1 r with
    | fail => simp only [z] at h; exact h.elim
    | ok d ρ2 =>
      simp only [z] at h
      obtain ⟨F2, P2, q2⟩ := P.toFz hr q f z
      cases y : bindT B.np ct d ρ2 with
      | none => rw [y] at h; exact h.elim
      | some ρ3 =>
        rw [y] at h
        exact hg F2 H1 ρ2 σ v d ρ3 _ P2.rel q2 y fun σ' r' _ => h σ' F2 H1 P2.same r'
/-- two stores, one behind the other -/
theorem par_run {i j : Nat} {E : Ends} {F H F1 H1 F2 H2 : Hp} {ρ ρ1 ρ2 : Rho} {σ : L2.St} {r1 r2 : RV} {v w : V} (hr : Rel X.K B F H ρ σ) (P1 : Post X.K B σ F H ρ F1 H1 ρ1) (q1 : RvOk X.K F1 H1 ρ1 σ r1 v) (f1 : Fresh H r1 v)
    (P2 : Post X.K B σ F1 H1 ρ1 F2 H2 ρ2) (q2 : RvOk X.K F2 H2 ρ2 σ r2 w) (f2 : Fresh H1 r2 w)
    (h : Fin X.K B F E (match settle ρ2 r1 with
        | .ok sx ρ => (match settle ρ r2 with
          | .ok sy ρ => (match (setSl B.np i sx ρ).bind (setSl B.np j sy) with | some ρ => .next ρ | none => .fail)
          | .fail => .fail)
        | .fail => .fail)) : ∃ F5 ρ5 s1 s2, Same F F5 ∧ Rel X.K B F5 H2 ρ5 σ ∧ SvOk X.K B F5 H2 ρ5 σ s1 v ∧ SvOk X.K B F5 H2 ρ5 σ s2 w ∧ B.np ≤ i ∧ i < ρ5.length ∧ B.np ≤ j ∧ j < ρ5.length ∧ (∀ d1 d2, s1 = .ow d1 → s2 = .ow d2 → v ≠ w) ∧
          Fin X.K B F E (.next ((ρ5.set i s1).set j s2)) := by
  have q1' := q1.step P2
  cases z1 : settle ρ2 r1 with
  | fail => simp only [z1] at h; exact h.elim
  | ok s1 ρ3 =>
    simp only [z1] at h
    obtain ⟨F3, P3, g1⟩ := settle_ok P2.rel q1' (fun d p e1 e2 => by subst e1; exact hr.bfree (f1 p e2)) z1
    have q2' := q2.step P3
    cases z2 : settle ρ3 r2 with
    | fail => simp only [z2] at h; exact h.elim
    | ok s2 ρ4 =>
      simp only [z2] at h
      obtain ⟨F4, P4, g2⟩ := settle_ok P3.rel q2' (fun d p e1 e2 => by subst e1; exact P1.rel.bfree (f2 p e2)) z2
      cases z3 : (setSl B.np i s1 ρ4).bind (setSl B.np j s2) with
      | none => simp only [z3] at h; exact h.elim
      | some ρ5 =>
        simp only [z3] at h
        obtain ⟨ρ6, y1, y2⟩ := obind_some z3
        obtain ⟨a1, a2, a3⟩ := setSl_some y1
        obtain ⟨b1, b2, b3⟩ := setSl_some y2
        subst a3
        subst b3
        rw [List.length_set] at b2
        refine ⟨F4, ρ4, s1, s2, ((P1.same.trans P2.same).trans P3.same).trans P4.same, P4.rel, g1.step P4, g2, a1, a2, b1, b2, fun d1 d2 e1 e2 ev => ?_, h⟩
        subst e1
        subst e2
        have e1 : r1 = .ow d1 := by
          cases r1 with
          | ow d => cases z1; rfl
          | fz d => cases z1
          | bor k =>
            obtain ⟨_, _, _, e⟩ := bind_ok (show (toFz ρ2 (.bor k)).bind (fun d ρ => R.ok (Sl.fz d) ρ) = .ok (.ow d1) ρ3 from z1)
            cases e
        have e2 : r2 = .ow d2 := by
          cases r2 with
          | ow d => cases z2; rfl
          | fz d => cases z2
          | bor k =>
            obtain ⟨_, _, _, e⟩ := bind_ok (show (toFz ρ3 (.bor k)).bind (fun d ρ => R.ok (Sl.fz d) ρ) = .ok (.ow d2) ρ4 from z2)
            cases e
        subst e1
        subst e2
        obtain ⟨p, o, rfl, h1, _⟩ := q1
        have := f2 p ev.symm
        rw [h1] at this
        cases this
theorem par_fin {i j : Nat} {E : Ends} {F F5 H : Hp} {ρ : Rho} {σ : L2.St} {s1 s2 : Sl} {v w : V} (sm : Same F F5) (hr : Rel X.K B F5 H ρ σ) (q1 : SvOk X.K B F5 H ρ σ s1 v) (q2 : SvOk X.K B F5 H ρ σ s2 w) (h1 : B.np ≤ i) (h2 : i < ρ.length) (h3 : B.np ≤ j) (h4 : j < ρ.length)
    (hne : ∀ d1 d2, s1 = .ow d1 → s2 = .ow d2 → v ≠ w) (h : Fin X.K B F E (.next ((ρ.set i s1).set j s2))) : E.nx ((σ.set i (some v)).set j (some w)) H :=
  h _ F5 H sm ((q2.other h2 hr.len hne).put (q1.put hr h1 h2) h3 (by rw [List.length_set]; exact h4))
/-- a, b = e1, e2, both locals -/
theorem ss_par {i j : Nat} {y : Str} {px py pt pt2 : Pos} {kt k2} (hc : X.calm = true) (hN : X.N.Nodup) (hi : X.N[i]? = some x) (hj : X.N[j]? = some y) (hij : i ≠ j) (hx : X.env.scope.names.lookup x = some .local) (hy : X.env.scope.names.lookup y = some .local)
    (hw : swappedStores [.Tuple [.Name x px, .Name y py] kt pt] (.Tuple [a, b] k2 pt2) X.env = pure (some [x, y])) (hs : swapsWithSole [.Tuple [.Name x px, .Name y py] kt pt] (.Tuple [a, b] k2 pt2) pos.line X.env = pure false)
    (hs1 : starEach [a, b] X.env = (false, eval a X.env) :: starEach [b] X.env) (hs2 : starEach [b] X.env = (false, eval b X.env) :: starEach [] X.env) (ha : SE B X a (evE B.np cf ca)) (hb : SE B X b (evE B.np cf cb)) :
    SS B X (.Assign [.Tuple [.Name x px, .Name y py] kt pt] (.Tuple [a, b] k2 pt2) pos) (evS B.np cf (.sPar i j ca cb)) := by
  intro F H ρ σ E hr h
  have h : Fin X.K B F E (match evE B.np cf ca ρ with
    | .ok x ρ => (match evE B.np cf cb ρ with
      | .ok y ρ => (match settle ρ x with
        | .ok sx ρ => (match settle ρ y with
          | .ok sy ρ => (match (setSl B.np i sx ρ).bind (setSl B.np j sy) with | some ρ => .next ρ | none => .fail)
          | .fail => .fail)
        | .fail => .fail)
      | .fail => .fail)
    | .fail => .fail) := h
  cases z1 : evE B.np cf ca ρ with
  | fail => simp only [z1] at h; exact h.elim
  | ok r1 ρ1 =>
    simp only [z1] at h
    cases z2 : evE B.np cf cb ρ1 with
    | fail => simp only [z2] at h; exact h.elim
    | ok r2 ρ2 =>
      simp only [z2] at h
      refine gs_of (ps_par hc hN hi hj hij hx hy pa_ga hw hs) (ga_two hs1 hs2 ?_)
      refine ha F H ρ σ _ hr ⟨r1, ρ1, z1, fun v F1 H1 P1 q1 f1 => ?_⟩
      refine hb F1 H1 ρ1 σ _ P1.rel ⟨r2, ρ2, z2, fun w F2 H2 P2 q2 f2 => ?_⟩
      obtain ⟨F5, ρ5, s1, s2, sm, r5, g1, g2, a1, a2, b1, b2, hne, hF⟩ := par_run hr P1 q1 f1 P2 q2 f2 h
      exact ⟨v, w, rfl, par_fin sm r5 g1 g2 a1 a2 b1 b2 hne hF⟩
/-- a, b = e1, e2, by a tuple that is dropped -/
theorem ss_parT {i j : Nat} {y : Str} {px py pt pt2 : Pos} {kt k2} (hc : X.calm = true) (hN : X.N.Nodup) (hi : X.N[i]? = some x) (hj : X.N[j]? = some y) (hx : Loc X.env.scope x) (hy : Loc X.env.scope y) (hfx : X.fn x = true ∨ X.env.scope.names.lookup x = some .local) (hfy : X.fn y = true ∨ X.env.scope.names.lookup y = some .local)
    (hw : swappedStores [.Tuple [.Name x px, .Name y py] kt pt] (.Tuple [a, b] k2 pt2) X.env = pure none) (hs : swapsWithSole [.Tuple [.Name x px, .Name y py] kt pt] (.Tuple [a, b] k2 pt2) pos.line X.env = pure false)
    (hs1 : starEach [a, b] X.env = (false, eval a X.env) :: starEach [b] X.env) (hs2 : starEach [b] X.env = (false, eval b X.env) :: starEach [] X.env) (ha : SE B X a (evE B.np cf ca)) (hb : SE B X b (evE B.np cf cb)) :
    SS B X (.Assign [.Tuple [.Name x px, .Name y py] kt pt] (.Tuple [a, b] k2 pt2) pos) (evS B.np cf (.sPar i j ca cb)) := by
  intro F H ρ σ E hr h
  have h : Fin X.K B F E (match evE B.np cf ca ρ with
    | .ok x ρ => (match evE B.np cf cb ρ with
      | .ok y ρ => (match settle ρ x with
        | .ok sx ρ => (match settle ρ y with
          | .ok sy ρ => (match (setSl B.np i sx ρ).bind (setSl B.np j sy) with | some ρ => .next ρ | none => .fail)
          | .fail => .fail)
        | .fail => .fail)
      | .fail => .fail)
    | .fail => .fail) := h
  cases z1 : evE B.np cf ca ρ with
  | fail => simp only [z1] at h; exact h.elim
  | ok r1 ρ1 =>
    simp only [z1] at h
    cases z2 : evE B.np cf cb ρ1 with
    | fail => simp only [z2] at h; exact h.elim
    | ok r2 ρ2 =>
      simp only [z2] at h
      refine gs_of (ps_asg (pe_tup pa_ga) (pg_tup hc (pgs_cons (pg_name hN hi hx hfx) (pgs_cons (pg_name hN hj hy hfy) pgs_nil))) hs hw) (ga_two hs1 hs2 ?_)
      refine ha F H ρ σ _ hr ⟨r1, ρ1, z1, fun v F1 H1 P1 q1 f1 => ?_⟩
      refine hb F1 H1 ρ1 σ _ P1.rel ⟨r2, ρ2, z2, fun w F2 H2 P2 q2 f2 => ⟨by show 2 ≤ sizeLine; decide, fun T hT => ?_⟩⟩
      obtain ⟨F5, ρ5, s1, s2, sm, r5, g1, g2, a1, a2, b1, b2, hne, hF⟩ := par_run hr P1 q1 f1 P2 q2 f2 h
      have PT := Post.new (o := HO.tup [v, w]) r5 hT
      refine ⟨T, [v, w], rfl, SqT.of upd_same, rfl, v, [w], rfl, w, [], rfl, rfl, ?_⟩
      exact par_fin sm PT.rel (g1.step PT) (g2.step PT) a1 a2 b1 b2 hne hF
/-- what a name alone holds is written -/
theorem Rel.writeOwn {K : PySem.W.Frag} {F H : Hp} {ρ : Rho} {σ : L2.St} {i : Nat} {p : Addr} {d d' : D} {o' : HO} (h : Rel K B F H ρ σ) (e : ρ[i]? = some (.ow d)) (es : σ[i]? = some (some (.ref p))) (q : RpO K F d' o') : Rel K B F (upd H p o') (ρ.set i (.ow d')) σ := by
  have oi : OwnAt ρ σ i p := ⟨d, e, es⟩
  have hi : i < ρ.length := (List.getElem?_eq_some_iff.mp e).1
  have s := h.sl i
  rw [e, es] at s
  obtain ⟨p', o, e1, e2, e3, e4⟩ := s
  cases e1
  have ow' : ∀ j r, OwnAt (ρ.set i (.ow d')) σ j r → OwnAt ρ σ j r := fun j r ⟨d2, g1, g2⟩ => by
    by_cases hj : j = i
    · subst hj
      rw [es] at g2
      cases g2
      exact oi
    · rw [List.getElem?_set_ne (Ne.symm hj)] at g1
      exact ⟨d2, g1, g2⟩
  refine ⟨fun b x g => by rw [upd_ne (ne_of_none g e3)]; exact h.same b x g, by rw [List.length_set]; exact h.len, fun j => ?_, fun j k r a b => h.dis j k r (ow' j r a) (ow' k r b), h.sameB, fun b x g n => ?_, fun b x g => ?_, h.frz, fun j r g a => h.loc j r g (ow' j r a), fun j r g a => h.par j r g (ow' j r a), h.arg⟩
  · by_cases hj : j = i
    · subst hj
      rw [List.getElem?_set_self hi, es]
      exact ⟨p, o', rfl, upd_same, e3, q⟩
    · rw [List.getElem?_set_ne (Ne.symm hj)]
      have sj := h.sl j
      cases g : ρ[j]? with
      | none => trivial
      | some w =>
        rw [g] at sj
        cases w with
        | un => trivial
        | fz d2 => exact sj
        | ow d2 =>
          obtain ⟨p2, o2, q1, q2, q3, q4⟩ := sj
          exact ⟨p2, o2, q1, by rw [upd_ne fun z => hj (h.dis j i p ⟨d2, g, by rw [q1, z]⟩ oi)]; exact q2, q3, q4⟩
  · have hb : b ≠ p := fun z => by
      subst z
      by_cases hn : B.np ≤ i
      · rw [h.loc i b hn oi] at g
        cases g
      · exact n (h.par i b (by omega) oi)
    rw [upd_ne hb]
    exact h.pre b x g n
  · by_cases hb : b = p
    · subst hb
      exact ⟨o', upd_same⟩
    · rw [upd_ne hb]
      exact h.dom b x g
/-- xs[i] = e -/
theorem ss_sub {o : Nat} (ho : X.N[o]? = some x) (hv : Vis X.env.scope x) (hd : (x == ("__debug__" : Str)) = false) (hcd : (x == ("__classdict__" : Str)) = false) {p2 p3 : Pos}
    (hs : swapsWithSole [.Subscript (.Name x p2) a p3] e pos.line X.env = pure false) (hw : swappedStores [.Subscript (.Name x p2) a p3] e X.env = pure none) (h1 : (assignEach [.Subscript (.Name x p2) a p3] X.env).map (·.2) = [assign (.Subscript (.Name x p2) a p3) X.env])
    (ha : ∀ v, assign (.Subscript (.Name x p2) a p3) X.env v = (do
      let ov ← holding [v] (eval (.Name x p2) X.env)
      let iv ← holding [v, ov] (eval a X.env)
      standAt p3
      holding [v, ov, iv] (setItem ov iv v)
      release [v, ov, iv] []))
    (he : SE B X e (evE B.np cf ca)) (hi : SE B X a (evE B.np cf cb)) : SS B X (.Assign [.Subscript (.Name x p2) a p3] e pos) (evS B.np cf (.sSub o cb ca)) := by
  intro F H ρ σ E hr h
  have h : Fin X.K B F E (match evE B.np cf ca ρ with
    | .ok r ρ => (match toFz ρ r with
      | .ok d ρ => if isOw ρ[o]? then (match evE B.np cf cb ρ with
        | .ok (.fz (.int k)) ρ => (match ρ[o]? with
          | some (.ow (.lst l)) => (match ixD l.length k with
            | some k => .next (ρ.set o (.ow (.lst (l.set k d))))
            | none => .fail)
          | _ => .fail)
        | _ => .fail) else .fail
      | .fail => .fail)
    | .fail => .fail) := h
  cases z1 : evE B.np cf ca ρ with
  | fail => simp only [z1] at h; exact h.elim
  | ok r1 ρ1 =>
    simp only [z1] at h
    cases z2 : toFz ρ1 r1 with
    | fail => simp only [z2] at h; exact h.elim
    | ok d ρ2 =>
      simp only [z2] at h
      refine gs_of (ps_asg pe_ge (pg_sub (pe_var ho hv hd hcd) pe_ge set_list ha) hs hw h1) ?_
      refine he.sd F H ρ σ _ hr ⟨d, ρ2, by show (evE B.np cf ca ρ).bind _ = _; rw [z1]; exact z2, fun v F1 H1 P1 q1 => ?_⟩
      split at h
      · rename_i how
        have s0 := P1.rel.sl o
        cases g0 : ρ2[o]? with
        | none => rw [g0] at how; cases how
        | some w0 =>
          cases w0 with
          | un => rw [g0] at how; cases how
          | fz _ => rw [g0] at how; cases how
          | ow d0 =>
            rw [g0] at s0
            obtain ⟨p, o0, es, _⟩ := s0
            refine ⟨.ref p, es, ?_⟩
            split at h
            · rename_i k ρ3 z3
              refine hi F1 H1 ρ2 σ _ P1.rel ⟨_, _, z3, fun vi F2 H2 P2 q2 _ => ?_⟩
              split at h
              · rename_i l hl
                split at h
                · rename_i kk hk
                  have s2 := P2.rel.sl o
                  rw [hl, es] at s2
                  obtain ⟨p', o2, e1, e2, e3, vs, e4, e5⟩ := s2
                  cases e1
                  subst e4
                  refine ⟨p, vs, k, kk, rfl, q2, e2, by rw [e5.length]; exact hk, ?_⟩
                  exact h σ F2 _ (P1.same.trans P2.same) (P2.rel.writeOwn hl es ⟨_, rfl, e5.set kk (Rp.mono P2.same d v q1)⟩)
                · exact h.elim
              · exact h.elim
            · exact h.elim
      · exact h.elim
theorem ss_if {cb1 cb2 : C} {s1 s2 : List Stmt} (hc : ST B X c (evT B.np cf cc)) (h1 : SSs B X s1 (evSs B.np cf cb1)) (h2 : SSs B X s2 (evSs B.np cf cb2)) : SS B X (.If c s1 s2 pos) (evS B.np cf (.sIf cc cb1 cb2)) := by
  intro F H ρ σ E hr h
  have h : Fin X.K B F E (match evT B.np cf cc ρ with | .ok k ρ => if k then evSs B.np cf cb1 ρ else evSs B.np cf cb2 ρ | .fail => .fail) := h
  cases z1 : evT B.np cf cc ρ with
  | fail => simp only [z1] at h; exact h.elim
  | ok k ρ1 =>
    simp only [z1] at h
    refine gs_of (ps_if pt_gt pss_gss pss_gss) (hc F H ρ σ _ hr ⟨k, ρ1, z1, fun F1 H1 P => ?_⟩)
    cases k with
    | true =>
      rw [if_pos rfl] at h ⊢
      exact h1 F1 H1 ρ1 σ E P.rel (Fin.mono P.same h)
    | false =>
      rw [if_neg Bool.false_ne_true] at h ⊢
      exact h2 F1 H1 ρ1 σ E P.rel (Fin.mono P.same h)
theorem ret_run {E : Ends} {F H F1 H1 : Hp} {ρ ρ1 : Rho} {σ : L2.St} {r : RV} {v : V} (hr : Rel X.K B F H ρ σ) (P : Post X.K B σ F H ρ F1 H1 ρ1) (q : RvOk X.K F1 H1 ρ1 σ r v) (f : Fresh H r v) (h : Fin X.K B F E (retR B.np r ρ1)) : E.rt v H1 := by
  unfold retR at h
  split at h
  · rename_i d
    obtain ⟨p, o, rfl, g1, g2, g3, g4⟩ := q
    exact h _ σ F1 H1 P.same P.rel ⟨p, o, rfl, g1, g2, g3, g4, hr.bfree (f p rfl)⟩
  · exact h _ σ F1 H1 P.same P.rel q
  · rename_i i
    have s := P.rel.sl i
    rw [q.1] at s
    split at h
    · rename_i d hd
      rw [hd] at s
      obtain ⟨v', e1, e2⟩ := s
      cases e1
      exact h _ σ F1 H1 P.same P.rel e2
    · rename_i d hd
      split at h
      · rename_i hn
        rw [hd] at s
        obtain ⟨p, o, e1, e2, e3, e4⟩ := s
        cases e1
        have oi : OwnAt ρ1 σ i p := ⟨d, hd, q.1⟩
        refine h _ (σ.set i none) F1 H1 P.same (P.rel.setUn hn none) ⟨p, o, rfl, e2, e3, e4, fun j ⟨d', g1, g2⟩ => ?_, P.rel.loc i p hn oi⟩
        by_cases hj : j = i
        · subst hj
          rw [List.getElem?_set] at g1
          simp only [if_true] at g1
          split at g1 <;> cases g1
        · rw [List.getElem?_set_ne (Ne.symm hj)] at g1 g2
          exact hj (P.rel.dis j i p ⟨d', g1, g2⟩ oi)
      · obtain ⟨p, o, g1, g2, g3, g4, g5, g6⟩ := P.rel.freeze hd
        rw [q.1] at g1
        cases g1
        exact h _ σ _ H1 (P.same.trans g5.same) g5.rel g6
    · exact h.elim
theorem ss_ret (he : SE B X e (evE B.np cf ca)) : SS B X (.Return (some e) pos) (evS B.np cf (.sRet ca)) := by
  intro F H ρ σ E hr h
  have h : Fin X.K B F E (match evE B.np cf ca ρ with | .ok r ρ => retR B.np r ρ | .fail => .fail) := h
  cases z1 : evE B.np cf ca ρ with
  | fail => simp only [z1] at h; exact h.elim
  | ok r ρ1 =>
    simp only [z1] at h
    exact gs_of (ps_ret pe_ge) (he F H ρ σ _ hr ⟨r, ρ1, z1, fun v F1 H1 P q f => ret_run hr P q f h⟩)
theorem ss_retN : SS B X (.Return none pos) (evS B.np cf .sRetN) := by
  intro F H ρ σ E hr h
  exact gs_of ps_retN (h _ σ F H (Same.refl F) hr rfl)
theorem ss_for (hp : PassesOwn (model X.prog X.w) X.A X.env X.xe) (hc : X.calm = true) (hs : ∀ x, foldedSetIterable iter X.env x = pure x) (hi : SI B X tg iter (evI B.np cf ci)) (hg : SG B X tg ct) (hb : SSs B X body (evSs B.np cf cb)) :
    SS B X (.For tg iter body [] pos) (evS B.np cf (.sFor ct ci cb)) := by
  intro F H ρ σ E hr h
  have h : Fin X.K B F E (match evI B.np cf ci ρ with | .ok ds ρ => forL (bindT B.np ct) (evSs B.np cf cb) ds ρ | .fail => .fail) := h
  cases z1 : evI B.np cf ci ρ with
  | fail => simp only [z1] at h; exact h.elim
  | ok ds ρ1 =>
    simp only [z1] at h
    refine gs_of (ps_for hp hc pi_gi pg_gg pss_gss hs) (hi F H ρ σ _ hr ⟨ds, ρ1, z1, fun J F1 H1 P it => ?_⟩)
    refine ⟨fun i m σ' H' => m = ds.length - i ∧ i ≤ ds.length ∧ ∃ F' ρ', Same F1 F' ∧ Rel X.K B F' H' ρ' σ' ∧ Fin X.K B F E (forL (bindT B.np ct) (evSs B.np cf cb) (ds.drop i) ρ'), ⟨ds.length, by simp, Nat.zero_le _, F1, ρ1, Same.refl _, P.rel, h⟩, ?_⟩
    rintro i m σ' H' ⟨rfl, hle, F', ρ', sm, r', hrest⟩
    by_cases hlt : i < ds.length
    · right
      refine ⟨it.go i H' (sm.trans r'.same) hlt, fun σ2 H2 => ∃ F2 ρ2, Same F1 F2 ∧ Rel X.K B F2 H2 ρ2 σ2 ∧ Fin X.K B F E (forL (bindT B.np ct) (evSs B.np cf cb) (ds.drop (i + 1)) ρ2), fun σ2 H2 hN => ⟨ds.length - (i + 1), by omega, rfl, hlt, hN⟩, fun x H2 hy => ?_⟩
      obtain ⟨d, hd, yok⟩ := it.yld i H' x H2 (sm.trans r'.same) hy hlt
      obtain ⟨F2, P2, qx⟩ := yok.step sm r'
      rw [List.drop_eq_getElem_cons hlt] at hrest
      rw [List.getElem?_eq_getElem hlt] at hd
      cases hd
      unfold forL at hrest
      split at hrest
      · exact hrest.elim
      · rename_i ρ3 hb'
        refine hg F2 H2 ρ' σ' x _ ρ3 _ P2.rel qx hb' fun σ3 r3 _ => ?_
        refine hb F2 H2 ρ3 σ3 _ r3 ?_
        have sm2 : Same F1 F2 := sm.trans P2.same
        have sF : Same F F2 := P.same.trans sm2
        cases zb : evSs B.np cf cb ρ3 with
        | next ρ4 =>
          simp only [zb] at hrest
          exact fun σ4 F4 H4 s4 r4 => ⟨F4, ρ4, sm2.trans s4, r4, hrest⟩
        | cont ρ4 =>
          simp only [zb] at hrest
          exact fun σ4 F4 H4 s4 r4 => ⟨F4, ρ4, sm2.trans s4, r4, hrest⟩
        | brk ρ4 =>
          simp only [zb] at hrest
          exact fun σ4 F4 H4 s4 r4 => hrest σ4 F4 H4 (sF.trans s4) r4
        | ret r ρ4 =>
          simp only [zb] at hrest
          exact fun v σ4 F4 H4 s4 r4 q4 => hrest v σ4 F4 H4 (sF.trans s4) r4 q4
        | fail =>
          simp only [zb] at hrest
          exact hrest.elim
    · left
      have ei : i = ds.length := by omega
      refine ⟨it.stop i H' (sm.trans r'.same) (by omega), ?_⟩
      rw [ei, List.drop_length] at hrest
      exact hrest σ' F' H' (P.same.trans sm) r'
theorem ss_while (hp : PassesOwn (model X.prog X.w) X.A X.env X.xe) (hc : ST B X c (evT B.np cf cc)) (hb : SSs B X body (evSs B.np cf cb)) : SS B X (.While c body [] pos) (evS B.np cf (.sWhile cc cb)) := by
  intro F H ρ σ E hr h
  have h : Fin X.K B F E (whlL (evT B.np cf cc) (evSs B.np cf cb) whlMax ρ) := h
  refine gs_of (ps_while hp pt_gt pss_gss) ⟨fun m σ' H' => ∃ F' ρ', Same F F' ∧ Rel X.K B F' H' ρ' σ' ∧ Fin X.K B F E (whlL (evT B.np cf cc) (evSs B.np cf cb) m ρ'), ⟨whlMax, F, ρ, Same.refl _, hr, h⟩, ?_⟩
  rintro m σ' H' ⟨F', ρ', sm, r', hrest⟩
  cases m with
  | zero => exact hrest.elim
  | succ n =>
    unfold whlL at hrest
    cases zt : evT B.np cf cc ρ' with
    | fail => simp only [zt] at hrest; exact hrest.elim
    | ok k ρ1 =>
      refine hc F' H' ρ' σ' _ r' ⟨k, ρ1, zt, fun F1 H1 P => ?_⟩
      cases k with
      | false =>
        simp only [zt] at hrest
        rw [if_neg Bool.false_ne_true]
        exact hrest σ' F1 H1 (sm.trans P.same) P.rel
      | true =>
        simp only [zt] at hrest
        rw [if_pos rfl]
        refine ⟨fun σ2 H2 => ∃ F2 ρ2, Same F F2 ∧ Rel X.K B F2 H2 ρ2 σ2 ∧ Fin X.K B F E (whlL (evT B.np cf cc) (evSs B.np cf cb) n ρ2), fun σ2 H2 hN => ⟨n, Nat.lt_succ_self n, hN⟩, ?_⟩
        refine hb F1 H1 ρ1 σ' _ P.rel ?_
        have sF : Same F F1 := sm.trans P.same
        cases zb : evSs B.np cf cb ρ1 with
        | next ρ4 =>
          simp only [zb] at hrest
          exact fun σ4 F4 H4 s4 r4 => ⟨F4, ρ4, sF.trans s4, r4, hrest⟩
        | cont ρ4 =>
          simp only [zb] at hrest
          exact fun σ4 F4 H4 s4 r4 => ⟨F4, ρ4, sF.trans s4, r4, hrest⟩
        | brk ρ4 =>
          simp only [zb] at hrest
          exact fun σ4 F4 H4 s4 r4 => hrest σ4 F4 H4 (sF.trans s4) r4
        | ret r ρ4 =>
          simp only [zb] at hrest
          exact fun v σ4 F4 H4 s4 r4 q4 => hrest v σ4 F4 H4 (sF.trans s4) r4 q4
        | fail =>
          simp only [zb] at hrest
          exact hrest.elim
end
end PV

/-! PvS7: calls; a def does what its code does. -/
namespace PV
open PySem L2
abbrev σOf (vs : List V) : L2.St := vs.map some
structure ArgOk (K : PySem.W.Frag) (F H : Hp) (ps : List Sl) (vs : List V) : Prop where
  same : Same F H
  len : ps.length = vs.length
  sl : ∀ i : Nat, SlOk K F H ps[i]? (σOf vs)[i]?
  dis : ∀ i j p, OwnAt ps (σOf vs) i p → OwnAt ps (σOf vs) j p → i = j
/-- the value of a call -/
def ValOk (K : PySem.W.Frag) (H F' H' : Hp) : RV → V → Prop
  | .fz d, v => Rp K F' d v
  | .ow d, v => ∃ p o, v = .ref p ∧ H' p = some o ∧ F' p = none ∧ RpO K F' d o ∧ H p = none
  | .bor _, _ => False
structure CallPost (K : PySem.W.Frag) (F H : Hp) (ps : List Sl) (vs : List V) (F' H' : Hp) (ps' : List Sl) (r : RV) (v : V) : Prop where
  same : Same F F'
  same' : Same F' H'
  sl : ∀ i : Nat, SlOk K F' H' ps'[i]? (σOf vs)[i]?
  pres : ∀ b o, H b = some o → (∀ i, ¬ OwnAt ps (σOf vs) i b) → H' b = some o
  dom : ∀ b o, H b = some o → ∃ o', H' b = some o'
  fr : ∀ b o, F b = none → H b = some o → (∀ i, ¬ OwnAt ps (σOf vs) i b) → F' b = none
  val : ValOk K H F' H' r v
/-- what a def promises: what its code does -/
def spF (K : PySem.W.Frag) (n : Nat) (res : List Sl → CRes) : Sp := fun vs H Q _ => vs.length = n ∧ ∃ F ps r ps', ArgOk K F H ps vs ∧ res ps = .ok r ps' ∧ ∀ v F' H', CallPost K F H ps vs F' H' ps' r v → Q v H'
/-! ### a def's body -/
section
variable {P : Program} {w : World} {K : PySem.W.Frag} {mg : Str → Option Value} {base : Heap}
abbrev Xf (P : Program) (w : World) (K : PySem.W.Frag) (mg : Str → Option Value) (base : Heap) (N : List Str) (q : Str) (sc : Scope) (f : Addr) (cdv : Value) (A : Around) (outer : List Env) (s : Shared) (H : Hp) (E : XK) : Cx := (cxOf CX0 P w K mg base N q sc f cdv A outer s H E).nox
theorem ret_val {F0 H0 : Hp} {B : Bs} {F H : Hp} {ρ : Rho} {σ : L2.St} {r : RV} {v : V} (hB : B.H = H0) (h : RetOk K B F H ρ σ r v) : ValOk K H0 F H r v := by
  cases r with
  | fz d => exact h
  | ow d =>
    obtain ⟨p, o, rfl, h1, h2, h3, h4, h5⟩ := h
    exact ⟨p, o, rfl, h1, h2, h3, by rw [← hB]; exact h5⟩
  | bor _ => exact h
theorem call_post {F0 H0 : Hp} {ps : List Sl} {vs : List V} {np : Nat} {F H : Hp} {ρ : Rho} {σ : L2.St} {r : RV} {v : V} (hl : vs.length = np)
    (h : Rel K ⟨H0, F0, np, vs, fun p => ∃ i, OwnAt ps (σOf vs) i p⟩ F H ρ σ) (q : ValOk K H0 F H r v) : CallPost K F0 H0 ps vs F H (ρ.take np) r v := by
  refine ⟨h.sameB, h.same, fun i => ?_, fun b o e n => h.pre b o e fun ⟨i, z⟩ => n i z, h.dom, fun b o e g n => h.frz b o e g fun ⟨i, z⟩ => n i z, q⟩
  by_cases hi : i < np
  · rw [List.getElem?_take_of_lt hi]
    have s := h.sl i
    have a : σ[i]? = (vs[i]?).map some := h.arg i hi
    rw [a] at s
    show SlOk K F H ρ[i]? (vs.map some)[i]?
    rw [List.getElem?_map]
    exact s
  · rw [List.getElem?_eq_none (by rw [List.length_take]; omega)]
    trivial
theorem fn_body {N : List Str} {q : Str} {sc : Scope} {f : Addr} {cdv : Value} {A : Around} {outer : List Env} {s : Shared} {H : Hp} {E : XK} {body : List Stmt} {fn : Fn} {cf : Nat → List Sl → CRes} {vs : List V} {Q : VK}
    (hn : N.length = fn.nn) (hnp : fn.np ≤ fn.nn) (hb : ∀ B : Bs, B.np = fn.np → SSs B (Xf P w K mg base N q sc f cdv A outer s H E) body (evSs B.np cf fn.body)) (h : spF K fn.np (runF cf fn) vs H Q E) :
    GSs (Xf P w K mg base N q sc f cdv A outer s H E) body { nx := fun _ H' => Q .non H', rt := Q } (L2.start N vs) H := by
  obtain ⟨hl, F, sl, r, ps', ha, hr, k⟩ := h
  unfold runF at hr
  split at hr
  · rename_i hps
    have hlen : sl.length = vs.length := ha.len
    have gl : ∀ {i : Nat}, i < fn.np → (sl ++ List.replicate (fn.nn - fn.np) Sl.un)[i]? = sl[i]? := fun {i} hi => List.getElem?_append_left (by omega)
    have gs : ∀ {i : Nat}, i < fn.np → (L2.start N vs)[i]? = (σOf vs)[i]? := fun {i} hi => by
      unfold L2.start
      exact List.getElem?_append_left (by rw [List.length_map]; omega)
    have gu : ∀ {i : Nat}, ¬ i < fn.np → ∀ d, (sl ++ List.replicate (fn.nn - fn.np) Sl.un)[i]? ≠ some (.ow d) ∧ (sl ++ List.replicate (fn.nn - fn.np) Sl.un)[i]? ≠ some (.fz d) := fun {i} hi d => by
      rw [List.getElem?_append_right (by omega), List.getElem?_replicate]
      split
      · exact ⟨fun z => (by cases z), fun z => (by cases z)⟩
      · exact ⟨fun z => (by cases z), fun z => (by cases z)⟩
    have ow' : ∀ i p, OwnAt (sl ++ List.replicate (fn.nn - fn.np) Sl.un) (L2.start N vs) i p → i < fn.np ∧ OwnAt sl (σOf vs) i p := fun i p ⟨d, g1, g2⟩ => by
      by_cases hi : i < fn.np
      · rw [gl hi] at g1
        rw [gs hi] at g2
        exact ⟨hi, d, g1, g2⟩
      · exact absurd g1 (gu hi d).1
    have R : Rel K ⟨H, F, fn.np, vs, fun p => ∃ i, OwnAt sl (σOf vs) i p⟩ F H (sl ++ List.replicate (fn.nn - fn.np) Sl.un) (L2.start N vs) := by
      refine ⟨ha.same, ?_, fun i => ?_, fun i j p x y => ha.dis i j p (ow' i p x).2 (ow' j p y).2, Same.refl _, fun b o e _ => e, fun b o e => ⟨o, e⟩, fun b o e _ _ => e, fun i p g x => ?_, fun i p g x => ⟨i, (ow' i p x).2⟩, fun i hi => ?_⟩
      · unfold L2.start
        rw [List.length_append, List.length_append, List.length_map, List.length_replicate, List.length_replicate, hn, hlen, hl]
      · by_cases hi : i < fn.np
        · rw [gl hi, gs hi]
          exact ha.sl i
        · cases e : (sl ++ List.replicate (fn.nn - fn.np) Sl.un)[i]? with
          | none => trivial
          | some x =>
            cases x with
            | un => trivial
            | fz d => exact absurd e (gu hi d).2
            | ow d => exact absurd e (gu hi d).1
      · exact absurd (ow' i p x).1 (by show ¬ i < fn.np; exact Nat.not_lt.mpr g)
      · show (L2.start N vs)[i]? = (vs[i]?).map some
        rw [gs hi]
        show (vs.map some)[i]? = _
        rw [List.getElem?_map]
    refine hb ⟨H, F, fn.np, vs, fun p => ∃ i, OwnAt sl (σOf vs) i p⟩ rfl F H _ _ _ R ?_
    cases z : evSs fn.np cf fn.body (sl ++ List.replicate (fn.nn - fn.np) Sl.un) with
    | next ρ' =>
      rw [z] at hr
      cases hr
      exact fun σ' F' H' _ r' => k _ F' H' (call_post hl r' rfl)
    | ret r0 ρ' =>
      rw [z] at hr
      cases hr
      exact fun v σ' F' H' _ r' q' => k _ F' H' (call_post hl r' (ret_val (F0 := F) rfl q'))
    | brk _ => rw [z] at hr; cases hr
    | cont _ => rw [z] at hr; cases hr
    | fail => rw [z] at hr; cases hr
  · cases hr
/-- THE RULE for a def -/
theorem fn_ok {x qual : Str} {st : Stmt} {f : Addr} {fd : FuncData} {N ps : List Str} {k : Nat} {fn : Fn} {cf : Nat → List Sl → CRes} (F : Fun K x qual st f fd) (S : FnScope N ps (defScope st)) (hps : ps.length = fn.np) (hn : N.length = fn.nn) (hnp : fn.np ≤ fn.nn)
    (hb : ∀ (B : Bs) (cdv : Value) (A : Around) (outer : List Env) (s : Shared) (H : Hp) (E : XK), B.np = fn.np → Room k (A.deeper (PyProof.Rows.envOfC qual (defScope st) s.heap.objs.size f cdv)) → SSs B (Xf P w K mg base N qual (defScope st) f cdv A outer s H E) (defBody st) (evSs B.np cf fn.body)) :
    FnOk P w K mg base CX0 (k + 1) f fd ps (spF K fn.np (runF cf fn)) := by
  refine F.ok S (fun vs H Q E h => by rw [h.1, hps]) fun cdv A outer s H vs Q E hr h => ⟨GSs _ _, pss_gss, ?_⟩
  exact fn_body hn hnp (fun B hB => hb B cdv A outer s H E hB hr) h
end
/-! ### arguments -/
def ArsOk (K : PySem.W.Frag) (F : Hp) (ρ : Rho) (σ : L2.St) : List Ar → List V → Prop
  | [], vs => vs = []
  | .val d :: l, vs => ∃ v r, vs = v :: r ∧ Rp K F d v ∧ ArsOk K F ρ σ l r
  | .slot i :: l, vs => ∃ v r, vs = v :: r ∧ σ[i]? = some (some v) ∧ Live ρ i ∧ ArsOk K F ρ σ l r
def SAr (B : Bs) (X : Cx) (es : List Expr) (m : Rho → R (List Ar)) : Prop := ∀ F H ρ σ Q, Rel X.K B F H ρ σ → (∃ l ρ', m ρ = .ok l ρ' ∧ ∀ vs F' H', Post X.K B σ F H ρ F' H' ρ' → ArsOk X.K F' ρ' σ l vs → Q vs H') → GA X es σ H Q
section
variable {K : PySem.W.Frag} {B : Bs} {σ : L2.St} {F F1 F' H H1 H' : Hp} {ρ ρ1 ρ' : Rho}
theorem ArsOk.length : ∀ {l : List Ar} {vs : List V}, ArsOk K F ρ σ l vs → vs.length = l.length
  | [], _, h => by rw [show _ = [] from h]; rfl
  | .val d :: l, _, h => by
    obtain ⟨v, r, rfl, _, h2⟩ := h
    rw [List.length_cons, List.length_cons, h2.length]
  | .slot i :: l, _, h => by
    obtain ⟨v, r, rfl, _, _, h2⟩ := h
    rw [List.length_cons, List.length_cons, h2.length]
theorem ArsOk.slot : ∀ {l : List Ar} {vs : List V} {k i : Nat}, ArsOk K F ρ σ l vs → l[k]? = some (.slot i) → σ[i]? = (σOf vs)[k]?
  | [], _, _, _, _, e => by simp at e
  | .val d :: l, _, 0, _, h, e => by cases e
  | .slot j :: l, _, 0, i, h, e => by
    obtain ⟨v, r, rfl, h1, _, _⟩ := h
    cases e
    exact h1
  | .val d :: l, _, k + 1, i, h, e => by
    obtain ⟨v, r, rfl, _, h2⟩ := h
    exact h2.slot (k := k) (by simpa using e)
  | .slot j :: l, _, k + 1, i, h, e => by
    obtain ⟨v, r, rfl, _, _, h2⟩ := h
    exact h2.slot (k := k) (by simpa using e)
theorem ArsOk.step {vs : List V} (P : Post K B σ F H ρ F1 H1 ρ1) : ∀ {l : List Ar} {vs : List V}, ArsOk K F ρ σ l vs → ArsOk K F1 ρ1 σ l vs
  | [], _, h => h
  | .val d :: l, _, h => by
    obtain ⟨v, r, rfl, h1, h2⟩ := h
    exact ⟨v, r, rfl, Rp.mono P.same d v h1, ArsOk.step (vs := vs) P h2⟩
  | .slot i :: l, _, h => by
    obtain ⟨v, r, rfl, h1, h2, h3⟩ := h
    exact ⟨v, r, rfl, h1, P.live i h2, ArsOk.step (vs := vs) P h3⟩
/-- the arguments' words -/
theorem arSl_ok (hr : Rel K B F H ρ σ) : ∀ {as : List Ar} {vs : List V} {ps : List Sl}, ArsOk K F ρ σ as vs → arSl ρ as = some ps →
    ps.length = vs.length ∧ (∀ k : Nat, SlOk K F H ps[k]? (σOf vs)[k]?) ∧ ∀ (k : Nat) (d : D), ps[k]? = some (.ow d) → ∃ i, as[k]? = some (.slot i) ∧ ρ[i]? = some (.ow d)
  | [], _, _, h, e => by
    cases e
    rw [show _ = [] from h]
    exact ⟨rfl, fun k => trivial, fun k d e => by simp at e⟩
  | .val d :: l, _, ps, h, e => by
    obtain ⟨v, r, rfl, h1, h2⟩ := h
    obtain ⟨ps', e1, rfl⟩ := omap_some (show (arSl ρ l).map (Sl.fz d :: ·) = some ps from e)
    obtain ⟨g1, g2, g3⟩ := arSl_ok hr h2 e1
    refine ⟨by rw [List.length_cons, List.length_cons, g1], fun k => ?_, fun k d' e' => ?_⟩
    · cases k with
      | zero => exact ⟨v, rfl, h1⟩
      | succ k => exact g2 k
    · cases k with
      | zero => cases e'
      | succ k => exact g3 k d' e'
  | .slot i :: l, _, ps, h, e => by
    obtain ⟨v, r, rfl, h1, h2, h3⟩ := h
    have e : (match ρ[i]? with | some (.fz d) => (arSl ρ l).map (Sl.fz d :: ·) | some (.ow d) => (arSl ρ l).map (Sl.ow d :: ·) | _ => none) = some ps := e
    have s := hr.sl i
    rw [h1] at s
    split at e
    · rename_i d hd
      rw [hd] at s
      obtain ⟨ps', e1, rfl⟩ := omap_some e
      obtain ⟨g1, g2, g3⟩ := arSl_ok hr h3 e1
      refine ⟨by rw [List.length_cons, List.length_cons, g1], fun k => ?_, fun k d' e' => ?_⟩
      · cases k with
        | zero => exact s
        | succ k => exact g2 k
      · cases k with
        | zero => cases e'
        | succ k => exact g3 k d' e'
    · rename_i d hd
      rw [hd] at s
      obtain ⟨ps', e1, rfl⟩ := omap_some e
      obtain ⟨g1, g2, g3⟩ := arSl_ok hr h3 e1
      refine ⟨by rw [List.length_cons, List.length_cons, g1], fun k => ?_, fun k d' e' => ?_⟩
      · cases k with
        | zero => exact s
        | succ k => exact g2 k
      · cases k with
        | zero =>
          cases e'
          exact ⟨i, rfl, hd⟩
        | succ k => exact g3 k d' e'
    · cases e
/-- an owned name is handed on but once -/
theorem arNd_once : ∀ {as : List Ar} {i k k' : Nat} {d : D}, arNd ρ as = true → ρ[i]? = some (.ow d) → as[k]? = some (.slot i) → as[k']? = some (.slot i) → k = k'
  | [], _, _, _, _, _, _, e, _ => by simp at e
  | .val _ :: l, i, k, k', d, h, ho, e, e' => by
    cases k with
    | zero => cases e
    | succ k =>
      cases k' with
      | zero => cases e'
      | succ k' => rw [arNd_once (as := l) (k := k) (k' := k') h ho (by simpa using e) (by simpa using e')]
  | .slot j :: l, i, k, k', d, h, ho, e, e' => by
    have h : ((!isOw ρ[j]? || l.all fun | .slot j' => j' != j | .val _ => true) && arNd ρ l) = true := h
    obtain ⟨h1, h2⟩ := Bool.and_eq_true_iff.mp h
    have no : j = i → ∀ k : Nat, l[k]? ≠ some (.slot i) := fun ej k ek => by
      subst ej
      rw [ho] at h1
      have h1 : (l.all fun | .slot j' => j' != j | .val _ => true) = true := h1
      have := List.all_eq_true.mp h1 _ (List.mem_of_getElem? ek)
      simp at this
    cases k with
    | zero =>
      cases e
      cases k' with
      | zero => rfl
      | succ k' => exact absurd (by simpa using e') (no rfl k')
    | succ k =>
      cases k' with
      | zero =>
        cases e'
        exact absurd (by simpa using e) (no rfl k)
      | succ k' => rw [arNd_once (as := l) (k := k) (k' := k') h2 ho (by simpa using e) (by simpa using e')]
theorem arNd_set {p : Sl} : ∀ {as : List Ar} {i : Nat}, arNd ρ as = true → (∀ k : Nat, as[k]? ≠ some (.slot i)) → arNd (ρ.set i p) as = true
  | [], _, _, _ => rfl
  | .val _ :: l, i, h, n => arNd_set (as := l) h fun k e => n (k + 1) (by simpa using e)
  | .slot j :: l, i, h, n => by
    have h : ((!isOw ρ[j]? || l.all fun | .slot j' => j' != j | .val _ => true) && arNd ρ l) = true := h
    obtain ⟨h1, h2⟩ := Bool.and_eq_true_iff.mp h
    have hj : i ≠ j := fun z => n 0 (by rw [z]; rfl)
    show ((!isOw (ρ.set i p)[j]? || l.all fun | .slot j' => j' != j | .val _ => true) && arNd (ρ.set i p) l) = true
    rw [List.getElem?_set_ne hj, arNd_set h2 fun k e => n (k + 1) (by simpa using e), Bool.and_true]
    exact h1
/-- what the names hold behind the call -/
theorem arBack_get : ∀ {as : List Ar} {ps : List Sl} {ρ ρ' : Rho}, arBack as ps ρ = some ρ' → arNd ρ as = true → ρ'.length = ρ.length ∧ ∀ j : Nat,
    (∃ (k : Nat) (d : D) (p : Sl), as[k]? = some (.slot j) ∧ ρ[j]? = some (.ow d) ∧ ps[k]? = some p ∧ p ≠ .un ∧ ρ'[j]? = some p) ∨ ((∀ (k : Nat) (d : D), as[k]? = some (.slot j) → ρ[j]? ≠ some (.ow d)) ∧ ρ'[j]? = ρ[j]?)
  | [], [], ρ, ρ', h, _ => by
    cases h
    exact ⟨rfl, fun j => .inr ⟨fun k d e => by simp at e, rfl⟩⟩
  | [], _ :: _, ρ, ρ', h, _ => by cases h
  | .val _ :: _, [], ρ, ρ', h, _ => by cases h
  | .slot _ :: _, [], ρ, ρ', h, _ => by cases h
  | .val d :: l, p :: ps, ρ, ρ', h, n => by
    obtain ⟨g1, g2⟩ := arBack_get (as := l) (ps := ps) (ρ := ρ) (ρ' := ρ') h n
    refine ⟨g1, fun j => ?_⟩
    rcases g2 j with ⟨k, d', p', e1, e2, e3, e4, e5⟩ | ⟨e1, e2⟩
    · exact .inl ⟨k + 1, d', p', by simpa using e1, e2, by simpa using e3, e4, e5⟩
    · refine .inr ⟨fun k d' e => ?_, e2⟩
      cases k with
      | zero => cases e
      | succ k => exact e1 k d' (by simpa using e)
  | .slot i :: l, p :: ps, ρ, ρ', h, n => by
    have n' : ((!isOw ρ[i]? || l.all fun | .slot j' => j' != i | .val _ => true) && arNd ρ l) = true := n
    obtain ⟨n1, n2⟩ := Bool.and_eq_true_iff.mp n'
    unfold arBack at h
    split at h
    · rename_i d hd
      have no : ∀ k : Nat, l[k]? ≠ some (.slot i) := fun k ek => by
        have := arNd_once (as := .slot i :: l) (k := 0) (k' := k + 1) n hd rfl (by simpa using ek)
        omega
      have hp : p ≠ .un := fun z => by
        subst z
        cases h
      have h : arBack l ps (ρ.set i p) = some ρ' := by
        cases p with
        | un => exact absurd rfl hp
        | fz _ => exact h
        | ow _ => exact h
      have hi : i < ρ.length := (List.getElem?_eq_some_iff.mp hd).1
      obtain ⟨g1, g2⟩ := arBack_get h (arNd_set n2 no)
      refine ⟨by rw [g1, List.length_set], fun j => ?_⟩
      by_cases hj : j = i
      · subst hj
        rcases g2 j with ⟨k, d', p', e1, _⟩ | ⟨e1, e2⟩
        · exact absurd e1 (no k)
        · rw [List.getElem?_set_self hi] at e2
          exact .inl ⟨0, d, p, rfl, hd, rfl, hp, e2⟩
      · rcases g2 j with ⟨k, d', p', e1, e2, e3, e4, e5⟩ | ⟨e1, e2⟩
        · rw [List.getElem?_set_ne (Ne.symm hj)] at e2
          exact .inl ⟨k + 1, d', p', by simpa using e1, e2, by simpa using e3, e4, e5⟩
        · rw [List.getElem?_set_ne (Ne.symm hj)] at e2
          refine .inr ⟨fun k d' e => ?_, e2⟩
          cases k with
          | zero =>
            cases e
            exact absurd rfl hj
          | succ k =>
            have := e1 k d' (by simpa using e)
            rw [List.getElem?_set_ne (Ne.symm hj)] at this
            exact this
    · rename_i hd
      obtain ⟨g1, g2⟩ := arBack_get h n2
      refine ⟨g1, fun j => ?_⟩
      rcases g2 j with ⟨k, d', p', e1, e2, e3, e4, e5⟩ | ⟨e1, e2⟩
      · exact .inl ⟨k + 1, d', p', by simpa using e1, e2, by simpa using e3, e4, e5⟩
      · refine .inr ⟨fun k d' e => ?_, e2⟩
        cases k with
        | zero =>
          cases e
          exact hd d'
        | succ k => exact e1 k d' (by simpa using e)
/-- behind a call -/
theorem Post.call {as : List Ar} {vs : List V} {ps ps' : List Sl} {r : RV} {v : V} (hr : Rel K B F H ρ σ) (ha : ArsOk K F ρ σ as vs) (hs : arSl ρ as = some ps) (hn : arNd ρ as = true) (c : CallPost K F H ps vs F' H' ps' r v) (hb : arBack as ps' ρ = some ρ') :
    Post K B σ F H ρ F' H' ρ' := by
  obtain ⟨hl, gb⟩ := arBack_get hb hn
  obtain ⟨a1, a2, a3⟩ := arSl_ok hr ha hs
  -- what the callee held alone was held alone by a name
  have up : ∀ k p, OwnAt ps (σOf vs) k p → ∃ i, as[k]? = some (.slot i) ∧ OwnAt ρ σ i p := fun k p ⟨d, e1, e2⟩ => by
    obtain ⟨i, e3, e4⟩ := a3 k d e1
    exact ⟨i, e3, d, e4, by rw [ha.slot e3]; exact e2⟩
  have ow' : ∀ j p, OwnAt ρ' σ j p → OwnAt ρ σ j p := fun j p ⟨d, e1, e2⟩ => by
    rcases gb j with ⟨k, d', p', _, e4, _⟩ | ⟨_, e4⟩
    · exact ⟨d', e4, e2⟩
    · exact ⟨d, by rw [← e4]; exact e1, e2⟩
  have noB : ∀ b o, B.H b = some o → ¬ B.O b → ∀ j, ¬ OwnAt ρ σ j b := fun b o g n j q => by
    by_cases hj : B.np ≤ j
    · rw [hr.loc j b hj q] at g
      cases g
    · exact n (hr.par j b (by omega) q)
  have noC : ∀ b, (∀ j, ¬ OwnAt ρ σ j b) → ∀ k, ¬ OwnAt ps (σOf vs) k b := fun b n k q => by
    obtain ⟨i, _, z⟩ := up k b q
    exact n i z
  refine ⟨c.same, ⟨c.same', by rw [hl]; exact hr.len, fun j => ?_, fun i j p x y => hr.dis i j p (ow' i p x) (ow' j p y), hr.sameB.trans c.same, fun b o g n => c.pres b o (hr.pre b o g n) (noC b (noB b o g n)), fun b o g => ?_, fun b o e g n => ?_, fun i p g x => hr.loc i p g (ow' i p x), fun i p g x => hr.par i p g (ow' i p x), hr.arg⟩,
    fun b o e n => c.pres b o e (noC b n), c.dom, ow', fun b o e g n => c.fr b o e g (noC b n), fun j q => ?_⟩
  · rcases gb j with ⟨k, d, p, e1, e2, e3, e4, e5⟩ | ⟨e1, e2⟩
    · rw [e5, ha.slot e1, ← e3]
      exact c.sl k
    · rw [e2]
      have s := hr.sl j
      cases g : ρ[j]? with
      | none => trivial
      | some x =>
        rw [g] at s
        cases x with
        | un => trivial
        | fz d =>
          obtain ⟨v', q1, q2⟩ := s
          exact ⟨v', q1, Rp.mono c.same d v' q2⟩
        | ow d =>
          obtain ⟨p, o, q1, q2, q3, q4⟩ := s
          have no : ∀ k, ¬ OwnAt ps (σOf vs) k p := fun k z => by
            obtain ⟨i, z1, z2⟩ := up k p z
            have : i = j := hr.dis i j p z2 ⟨d, g, q1⟩
            subst this
            exact e1 k d z1 g
          exact ⟨p, o, q1, c.pres p o q2 no, c.fr p o q3 q2 no, q4.mono c.same⟩
  · obtain ⟨o', e⟩ := hr.dom b o g
    exact c.dom b o' e
  · obtain ⟨o', e'⟩ := hr.dom b o g
    exact c.fr b o' (hr.frz b o e g n) e' (noC b (noB b o g n))
  · rcases gb j with ⟨k, d, p, e1, e2, e3, e4, e5⟩ | ⟨e1, e2⟩
    · cases p with
      | un => exact absurd rfl e4
      | fz d => exact ⟨d, .inl e5⟩
      | ow d => exact ⟨d, .inr e5⟩
    · obtain ⟨d, q⟩ := q
      unfold Live
      rw [e2]
      exact ⟨d, q⟩
theorem ArgOk.of {as : List Ar} {vs : List V} {ps : List Sl} (hr : Rel K B F H ρ σ) (ha : ArsOk K F ρ σ as vs) (hs : arSl ρ as = some ps) (hn : arNd ρ as = true) : ArgOk K F H ps vs := by
  obtain ⟨a1, a2, a3⟩ := arSl_ok hr ha hs
  refine ⟨hr.same, a1, a2, fun k k' p ⟨d, e1, e2⟩ ⟨d', e3, e4⟩ => ?_⟩
  obtain ⟨i, g1, g2⟩ := a3 k d e1
  obtain ⟨i', g3, g4⟩ := a3 k' d' e3
  have : i = i' := hr.dis i i' p ⟨d, g2, by rw [ha.slot g1]; exact e2⟩ ⟨d', g4, by rw [ha.slot g3]; exact e4⟩
  subst this
  exact arNd_once hn g2 g1 g3
end
/-! ### the call of a def -/
/-- a def of the text that can be called -/
structure Callee (P : Program) (w : World) (K : PySem.W.Frag) (mg : Str → Option Value) (base : Heap) (k : Nat) (x : Str) (n : Nat) (res : List Sl → CRes) : Prop where
  ex : ∃ (f : Addr) (fd : FuncData) (ps : List Str), mg x = some (.ref f) ∧ PySem.W.keepIn K (.ref f) = true ∧ Binds K fd ps [] ∧ FnOk P w K mg base CX0 k f fd ps (spF K n res)
section
variable {B : Bs} {X : Cx} {e a b c : Expr} {es : List Expr} {pos p : Pos} {np : Nat} {cf : Nat → List Sl → CRes} {ca cb cc : C} {x : Str}
theorem sar_nil : SAr B X [] (evAs np cf .nil) := by
  intro F H ρ σ Q hr ⟨l, ρ', hm, k⟩
  cases hm
  exact ga_of pa_nil (k [] F H (Post.refl hr) rfl)
theorem sar_slot {i : Nat} (hN : X.N[i]? = some x) (hv : Vis X.env.scope x) (hd : (x == ("__debug__" : Str)) = false) (hcd : (x == ("__classdict__" : Str)) = false) (hs : starEach (.Name x p :: es) X.env = (false, eval (.Name x p) X.env) :: starEach es X.env) (hb : SAr B X es (evAs np cf cb)) :
    SAr B X (.Name x p :: es) (evAs np cf (.cons (.slot i) cb)) := by
  intro F H ρ σ Q hr ⟨l, ρ', hm, k⟩
  have hm : (match ρ[i]? with | some (.fz _) | some (.ow _) => (evAs np cf cb ρ).bind fun l ρ => R.ok (Ar.slot i :: l) ρ | _ => .fail) = .ok l ρ' := hm
  have s := hr.sl i
  have go : Live ρ i → (∃ v, σ[i]? = some (some v)) → (evAs np cf cb ρ).bind (fun l ρ => R.ok (Ar.slot i :: l) ρ) = .ok l ρ' → GA X (.Name x p :: es) σ H Q := by
    intro lv ⟨v, ev⟩ m
    obtain ⟨l', ρ1, h1, m1⟩ := bind_ok m
    cases m1
    refine ga_of (pa_cons (pe_var hN hv hd hcd) pa_ga hs) ⟨v, ev, ?_⟩
    refine hb F H ρ σ _ hr ⟨l', _, h1, fun vs F1 H1 P q => ?_⟩
    exact k _ F1 H1 P ⟨v, vs, rfl, ev, P.live i lv, q⟩
  split at hm
  · rename_i d hd'
    rw [hd'] at s
    obtain ⟨v, e1, _⟩ := s
    exact go ⟨d, .inl hd'⟩ ⟨v, e1⟩ hm
  · rename_i d hd'
    rw [hd'] at s
    obtain ⟨p', o, e1, _⟩ := s
    exact go ⟨d, .inr hd'⟩ ⟨_, e1⟩ hm
  · cases hm
theorem sar_val (hc : ∀ i, ca ≠ .slot i) (hs : starEach (a :: es) X.env = (false, eval a X.env) :: starEach es X.env) (ha : SE B X a (evE np cf ca)) (hb : SAr B X es (evAs np cf cb)) : SAr B X (a :: es) (evAs np cf (.cons ca cb)) := by
  intro F H ρ σ Q hr ⟨l, ρ', hm, k⟩
  have hm : (evE np cf ca ρ).bind (fun r ρ => (toFz ρ r).bind fun d ρ => (evAs np cf cb ρ).bind fun l ρ => R.ok (Ar.val d :: l) ρ) = .ok l ρ' := by
    cases ca <;> first | exact absurd rfl (hc _) | exact hm
  obtain ⟨r, ρ1, h1, m1⟩ := bind_ok hm
  obtain ⟨d, ρ2, h2, m2⟩ := bind_ok m1
  obtain ⟨l', ρ3, h3, m3⟩ := bind_ok m2
  cases m3
  refine ga_of (pa_cons pe_ge pa_ga hs) (ha F H ρ σ _ hr ⟨_, _, h1, fun v F1 H1 P q f => ?_⟩)
  obtain ⟨F2, P2, q2⟩ := P.toFz hr q f h2
  refine hb F2 H1 ρ2 σ _ P2.rel ⟨_, _, h3, fun vs F3 H3 P3 q3 => ?_⟩
  exact k _ F3 H3 (P2.trans P3) ⟨v, vs, rfl, Rp.mono P3.same d v q2, q3⟩
theorem CallPost.rv {K : PySem.W.Frag} {F H F' H' : Hp} {ρ ρ' : Rho} {σ : L2.St} {ps ps' : List Sl} {vs : List V} {r : RV} {v : V} (hr : Rel K B F H ρ σ) (P : Post K B σ F H ρ F' H' ρ') (c : CallPost K F H ps vs F' H' ps' r v) : RvOk K F' H' ρ' σ r v ∧ Fresh H r v := by
  cases r with
  | fz d => exact ⟨c.val, trivial⟩
  | ow d =>
    obtain ⟨p, o, rfl, h1, h2, h3, h4⟩ := c.val
    exact ⟨⟨p, o, rfl, h1, h2, h3, fun i q => (hr.newFree h4).2 i (P.own i p q)⟩, fun p' e => by cases e; exact h4⟩
  | bor _ => exact c.val.elim
theorem se_call {k n f : Nat} (C : Callee X.prog X.w X.K X.mg X.base k x n (cf f)) (hrm : Room k X.A) (hg : Gl X x) (hdb : (x == ("__debug__" : Str)) = false) (he : starEach (e :: es) X.env = (false, eval e X.env) :: starEach es X.env) (hpl : (backTo pos (starEach es X.env)).any (·.1) = false)
    (hlen : (e :: es).length = n) (ha : SAr B X (e :: es) (evAs np cf ca)) (hal : ∀ ρ l ρ', evAs np cf ca ρ = .ok l ρ' → l.length = n) : SE B X (.Call (.Name x p) (e :: es) [] pos) (evE np cf (.call f ca)) := by
  intro F H ρ σ Q hr ⟨r, ρ', hm, kk⟩
  obtain ⟨fa, fd, psn, hmg, hkp, hbd, hok⟩ := C.ex
  obtain ⟨as, ρ1, h1, m1⟩ := bind_ok hm
  refine ge_of (pe_call hok hrm hg hmg hkp hbd .nil pass0 pa_ga hdb he hpl) (ha F H ρ σ _ hr ⟨as, ρ1, h1, fun vs F1 H1 P q => ?_⟩)
  split at m1
  · rename_i hnd
    split at m1
    · cases m1
    · rename_i sl hsl
      unfold callR at m1
      split at m1
      · cases m1
      · rename_i r0 ps' hres
        split at m1
        · cases m1
        · rename_i ρ2 hback
          refine ⟨by rw [List.append_nil, q.length, hal ρ as ρ1 h1], F1, sl, r0, ps', ?_, hres, fun v F' H' c => ?_⟩
          · rw [List.append_nil]
            exact ArgOk.of P.rel q hsl hnd
          · rw [List.append_nil] at c
            have PC := Post.call P.rel q hsl hnd c hback
            obtain ⟨g1, g2⟩ := c.rv P.rel PC
            cases r0 with
            | bor _ => exact c.val.elim
            | fz d => cases m1; exact kk v F' H' (P.trans PC) g1 (g2.back P)
            | ow d => cases m1; exact kk v F' H' (P.trans PC) g1 (g2.back P)
  · cases m1
end
end PV

/-! PvS8: calls with one new thing; defs with a star parameter; the table of defs. -/
namespace PV
open PySem L2
section
variable {K : PySem.W.Frag} {B : Bs} {σ : L2.St} {F F1 F' H H1 H' : Hp} {ρ ρ1 ρ' : Rho}
/-- a call that was handed a new thing, or nothing that is held alone -/
theorem Post.callTmp {ps ps' : List Sl} {vs : List V} {r : RV} {v : V} (hr : Rel K B F H ρ σ) (P : Post K B σ F H ρ F1 H1 ρ1) (hf : ∀ i p, OwnAt ps (σOf vs) i p → H p = none ∧ ∀ j, ¬ OwnAt ρ1 σ j p) (c : CallPost K F1 H1 ps vs F' H' ps' r v) : Post K B σ F H ρ F' H' ρ1 := by
  have h := P.rel
  have no : ∀ b o, H b = some o → ∀ i, ¬ OwnAt ps (σOf vs) i b := fun b o e i q => by
    rw [(hf i b q).1] at e
    cases e
  have noB : ∀ b o, B.H b = some o → ∀ i, ¬ OwnAt ps (σOf vs) i b := fun b o e => by
    obtain ⟨o', e'⟩ := hr.dom b o e
    exact no b o' e'
  refine ⟨P.same.trans c.same, ⟨c.same', h.len, fun j => ?_, h.dis, h.sameB.trans c.same, fun b o g n => c.pres b o (h.pre b o g n) (noB b o g), fun b o g => ?_, fun b o e g n => ?_, h.loc, h.par, h.arg⟩, fun b o e n => c.pres b o (P.pres b o e n) (no b o e), fun b o e => ?_, P.own, fun b o e g n => c.fr b o (P.fr b o e g n) (P.pres b o g n) (no b o g), P.live⟩
  · have s := h.sl j
    cases g : ρ1[j]? with
    | none => trivial
    | some x =>
      rw [g] at s
      cases x with
      | un => trivial
      | fz d =>
        obtain ⟨v', q1, q2⟩ := s
        exact ⟨v', q1, Rp.mono c.same d v' q2⟩
      | ow d =>
        obtain ⟨p, o, q1, q2, q3, q4⟩ := s
        have n2 : ∀ i, ¬ OwnAt ps (σOf vs) i p := fun i q => (hf i p q).2 j ⟨d, g, q1⟩
        exact ⟨p, o, q1, c.pres p o q2 n2, c.fr p o q3 q2 n2, q4.mono c.same⟩
  · obtain ⟨o', e⟩ := h.dom b o g
    exact c.dom b o' e
  · obtain ⟨o', e'⟩ := h.dom b o g
    exact c.fr b o' (h.frz b o e g n) e' (noB b o g)
  · obtain ⟨o', e'⟩ := P.dom b o e
    exact c.dom b o' e'
theorem CallPost.rvT {ps ps' : List Sl} {vs : List V} {r : RV} {v : V} (hr : Rel K B F H ρ σ) (P : Post K B σ F H ρ F1 H1 ρ1) (c : CallPost K F1 H1 ps vs F' H' ps' r v) : RvOk K F' H' ρ1 σ r v ∧ Fresh H r v := by
  cases r with
  | fz d => exact ⟨c.val, trivial⟩
  | ow d =>
    obtain ⟨p, o, rfl, h1, h2, h3, h4⟩ := c.val
    exact ⟨⟨p, o, rfl, h1, h2, h3, fun i q => (P.rel.newFree h4).2 i q⟩, Fresh.back P (r := .ow d) fun p' e => by cases e; exact h4⟩
  | bor _ => exact c.val.elim
end
section
variable {B : Bs} {X : Cx} {e a b c : Expr} {es : List Expr} {pos p : Pos} {np : Nat} {cf : Nat → List Sl → CRes} {ca cb cc : C} {x : Str}
theorem one_sl {s : Sl} {vx : V} {i : Nat} {q : Addr} (h : OwnAt [s] (σOf [vx]) i q) : i = 0 ∧ (∃ d, s = .ow d) ∧ vx = .ref q := by
  obtain ⟨d, e1, e2⟩ := h
  cases i with
  | zero =>
    cases e1
    cases e2
    exact ⟨rfl, ⟨d, rfl⟩, rfl⟩
  | succ i => simp at e1
theorem se_call1 {k fi : Nat} (C : Callee X.prog X.w X.K X.mg X.base k x 1 (cf fi)) (hrm : Room k X.A) (hg : Gl X x) (hdb : (x == ("__debug__" : Str)) = false) (hs : starEach [e] X.env = (false, eval e X.env) :: starEach [] X.env)
    (ha : SE B X e (evE np cf ca)) : SE B X (.Call (.Name x p) [e] [] pos) (evE np cf (.call1 fi ca)) := by
  intro F H ρ σ Q hr ⟨r, ρ', hm, kk⟩
  obtain ⟨fa, fd, psn, hmg, hkp, hbd, hok⟩ := C.ex
  obtain ⟨y, ρ1, h1, m1⟩ := bind_ok hm
  refine ge_of (pe_call hok hrm hg hmg hkp hbd .nil pass0 pa_ga hdb hs rfl) (ga_one hs (ha F H ρ σ _ hr ⟨y, ρ1, h1, fun v F1 H1 P q f => ?_⟩))
  have fin : ∀ (sl : Sl) (r0 : RV) (ps' : List Sl), SlOk X.K F1 H1 (some sl) (some (some v)) → (∀ q, (∃ d, sl = .ow d) → v = .ref q → H q = none ∧ ∀ j, ¬ OwnAt ρ1 σ j q) → cf fi [sl] = .ok r0 ps' → r0 = r → ρ1 = ρ' → spF X.K 1 (cf fi) [v] H1 Q (fun _ _ _ => False) := by
    intro sl r0 ps' s1 s2 hres e1 e2
    subst e1
    subst e2
    refine ⟨rfl, F1, [sl], r0, ps', ⟨P.rel.same, rfl, fun i => ?_, fun i j q' a b => ?_⟩, hres, fun v' F' H' c => ?_⟩
    · cases i with
      | zero => exact s1
      | succ i => trivial
    · rw [(one_sl a).1, (one_sl b).1]
    · have P2 := Post.callTmp hr P (fun i q' z => s2 q' (one_sl z).2.1 (one_sl z).2.2) c
      obtain ⟨g1, g2⟩ := c.rvT hr P
      exact kk v' F' H' P2 g1 g2
  split at m1
  · rename_i d
    obtain ⟨p0, o0, rfl, g1, g2, g3, g4⟩ := q
    have s1 : SlOk X.K F1 H1 (some (.ow d)) (some (some (V.ref p0))) := ⟨p0, o0, rfl, g1, g2, g3⟩
    have s2 : ∀ q, (∃ d', Sl.ow d = .ow d') → V.ref p0 = .ref q → H q = none ∧ ∀ j, ¬ OwnAt ρ1 σ j q := fun q _ e => by cases e; exact ⟨f p0 rfl, g4⟩
    split at m1
    · rename_i d' ps' hres
      cases m1
      exact fin _ _ ps' s1 s2 hres rfl rfl
    · rename_i d' ps' hres
      cases m1
      exact fin _ _ ps' s1 s2 hres rfl rfl
    · cases m1
  · rename_i d
    have s1 : SlOk X.K F1 H1 (some (.fz d)) (some (some v)) := ⟨v, rfl, q⟩
    have s2 : ∀ q, (∃ d', Sl.fz d = .ow d') → v = .ref q → H q = none ∧ ∀ j, ¬ OwnAt ρ1 σ j q := fun q ⟨_, z⟩ _ => by cases z
    split at m1
    · rename_i d' ps' hres
      cases m1
      exact fin _ _ ps' s1 s2 hres rfl rfl
    · rename_i d' ps' hres
      cases m1
      exact fin _ _ ps' s1 s2 hres rfl rfl
    · cases m1
  · cases m1
/-! ### a def with a star parameter alone -/
/-- the promise: the arguments, put into a tuple -/
def spS (K : PySem.W.Frag) (res : List Sl → CRes) : Sp := fun vs H Q E => ∃ ws rest, vs = ws ++ rest ∧ ws.length = ([] : List Str).length ∧ rest.length ≤ sizeLine ∧ ∀ p, H p = Option.none → spF K 1 res (ws ++ [V.ref p]) (upd H p (.tup rest)) Q E
structure CalleeS (P : Program) (w : World) (K : PySem.W.Frag) (mg : Str → Option Value) (base : Heap) (k : Nat) (x : Str) (res : List Sl → CRes) : Prop where
  ex : ∃ (f : Addr), mg x = some (.ref f) ∧ PySem.W.keepIn K (.ref f) = true ∧ FnR P w K mg base CX0 k f (spS K res)
theorem pe_callR {CX : CXT} {k : Nat} {f : Addr} {sp : Sp} {E : XK} {t : TA} (F : FnR X.prog X.w X.K X.mg X.base CX k f sp) (hr : Room k X.A) (hk : PySem.W.keepIn X.K (.ref f) = true) (hg : Gl X x) (hm : X.mg x = some (.ref f)) (hx : Passes CX X E) (ha : PA X (e :: es) t) (hd : (x == ("__debug__" : Str)) = false)
    (he : starEach (e :: es) X.env = (false, eval e X.env) :: starEach es X.env) (hst : (backTo pos (starEach es X.env)).any (·.1) = false) : PE X (.Call (.Name x p) (e :: es) [] pos) (fun σ H Q => t σ H fun vs H1 => sp vs H1 Q E) := by
  refine ⟨fun pins s σ H Q I h => ?_⟩
  refine wpAny_Call_Name_kw (ld_glob I hg hm ?_ hd)
  refine PySem.W.callWith_K (h₀ := X.base) I.ok.mod.kin hk (thn (ha.run pos pins s σ H _ I h) fun us s1 ⟨vs, H1, I1, r, q⟩ => ⟨I1.kIn, ?_⟩) he hst
  exact wpAny_call (run_fnR F hr hx I1 r q)
theorem pe_callR0 {CX : CXT} {k : Nat} {f : Addr} {sp : Sp} {E : XK} (F : FnR X.prog X.w X.K X.mg X.base CX k f sp) (hr : Room k X.A) (hk : PySem.W.keepIn X.K (.ref f) = true) (hg : Gl X x) (hm : X.mg x = some (.ref f)) (hx : Passes CX X E) (hd : (x == ("__debug__" : Str)) = false) :
    PE X (.Call (.Name x p) [] [] pos) (fun σ H Q => sp [] H Q E) := by
  refine ⟨fun pins s σ H Q I h => ?_⟩
  refine wpAny_Call_Name_kw (ld_glob I hg hm ?_ hd)
  exact PySem.W.callWith_K0 I.kIn hk (wpAny_call (run_fnR (us := []) F hr hx I .nil h))
/-- the call of such a def, behind its arguments -/
theorem starRun {f : Nat} {F H F1 H1 : Hp} {ρ ρ1 ρ' : Rho} {σ : L2.St} {r : RV} {Q : VK} {l : List D} {vs : List V} (hr : Rel X.K B F H ρ σ) (P : Post X.K B σ F H ρ F1 H1 ρ1) (q : RpL X.K F1 l vs)
    (m1 : (if l.length ≤ maxLen then (match cf f [.fz (.tup l)] with | .ok (.fz d) _ => R.ok (RV.fz d) ρ1 | .ok (.ow d) _ => .ok (.ow d) ρ1 | _ => .fail) else .fail) = .ok r ρ')
    (kk : ∀ v F' H', Post X.K B σ F H ρ F' H' ρ' → RvOk X.K F' H' ρ' σ r v → Fresh H r v → Q v H') : spS X.K (cf f) vs H1 Q (fun _ _ _ => False) := by
  split at m1
  · rename_i hl
    refine ⟨[], vs, rfl, rfl, by rw [q.length]; exact maxLen_le hl, fun p hp => ?_⟩
    obtain ⟨P2, q2⟩ := Post.newTup P.rel hp q
    have PT := P.trans P2
    have fin : ∀ (r0 : RV) (ps' : List Sl), cf f [.fz (.tup l)] = .ok r0 ps' → r0 = r → ρ1 = ρ' → spF X.K 1 (cf f) [V.ref p] (upd H1 p (.tup vs)) Q (fun _ _ _ => False) := by
      intro r0 ps' hres e1 e2
      subst e1
      subst e2
      refine ⟨rfl, _, [.fz (.tup l)], r0, ps', ⟨P2.rel.same, rfl, fun i => ?_, fun i j q' a b => ?_⟩, hres, fun v' F' H' c => ?_⟩
      · cases i with
        | zero => exact ⟨_, rfl, q2⟩
        | succ i => trivial
      · rw [(one_sl a).1, (one_sl b).1]
      · have P3 := Post.callTmp hr PT (fun i q' z => by obtain ⟨_, ⟨_, z⟩, _⟩ := one_sl z; cases z) c
        obtain ⟨g1, g2⟩ := c.rvT hr PT
        exact kk v' F' H' P3 g1 g2
    split at m1
    · rename_i d' ps' hres
      cases m1
      exact fin _ ps' hres rfl rfl
    · rename_i d' ps' hres
      cases m1
      exact fin _ ps' hres rfl rfl
    · cases m1
  · cases m1
theorem se_callS {k f : Nat} (C : CalleeS X.prog X.w X.K X.mg X.base k x (cf f)) (hrm : Room k X.A) (hg : Gl X x) (hdb : (x == ("__debug__" : Str)) = false) (he : starEach (e :: es) X.env = (false, eval e X.env) :: starEach es X.env) (hpl : (backTo pos (starEach es X.env)).any (·.1) = false)
    (ha : SL B X (e :: es) (evEs np cf ca)) : SE B X (.Call (.Name x p) (e :: es) [] pos) (evE np cf (.callS f ca)) := by
  intro F H ρ σ Q hr ⟨r, ρ', hm, kk⟩
  obtain ⟨fa, hmg, hkp, hok⟩ := C.ex
  obtain ⟨l, ρ1, h1, m1⟩ := bind_ok hm
  refine ge_of (pe_callR hok hrm hkp hg hmg pass0 pa_ga hdb he hpl) (ha F H ρ σ _ hr ⟨l, ρ1, h1, fun vs F1 H1 P q => ?_⟩)
  exact starRun hr P q m1 kk
theorem se_callS0 {k f : Nat} (C : CalleeS X.prog X.w X.K X.mg X.base k x (cf f)) (hrm : Room k X.A) (hg : Gl X x) (hdb : (x == ("__debug__" : Str)) = false) : SE B X (.Call (.Name x p) [] [] pos) (evE np cf (.callS f .nil)) := by
  intro F H ρ σ Q hr ⟨r, ρ', hm, kk⟩
  obtain ⟨fa, hmg, hkp, hok⟩ := C.ex
  obtain ⟨l, ρ1, h1, m1⟩ := bind_ok hm
  cases h1
  exact ge_of (pe_callR0 hok hrm hkp hg hmg pass0 hdb) (starRun (l := []) (vs := []) hr (Post.refl hr) (show RpL X.K F [] [] from rfl) m1 kk)
end
section
variable {P : Program} {w : World} {K : PySem.W.Frag} {mg : Str → Option Value} {base : Heap}
theorem fnS_ok {x qual pv : Str} {st : Stmt} {f : Addr} {fd : FuncData} {N : List Str} {k : Nat} {fn : Fn} {cf : Nat → List Sl → CRes} (F : Fun K x qual st f fd) (S : FnScope N [pv] (defScope st)) (hps : fn.np = 1) (hn : N.length = fn.nn) (hnp : fn.np ≤ fn.nn)
    (hbd : ∀ (kV doc pm : Value) (an : Option Addr) (cdv ct : Value) (rest : List Value), bindArgs (PySem.W.fnOf x qual (defArgs st) (defBody st) (defScope st) .none kV doc pm an cdv ct) ⟨rest, []⟩ = (newTuple rest >>= fun t => pure [(pv, t)]))
    (hb : ∀ (B : Bs) (cdv : Value) (A : Around) (outer : List Env) (s : Shared) (H : Hp) (E : XK), B.np = fn.np → Room k (A.deeper (PyProof.Rows.envOfC qual (defScope st) s.heap.objs.size f cdv)) → SSs B (Xf P w K mg base N qual (defScope st) f cdv A outer s H E) (defBody st) (evSs B.np cf fn.body)) :
    FnR P w K mg base CX0 (k + 1) f (spS K (runF cf fn)) := by
  obtain ⟨oc, od, kV, doc, pm, an, cdv, ct, osl, rfl, lk, hcd⟩ := F.ex
  refine StX.fn_star (ps := []) (pv := pv) lk hcd S StX.cxUp_none (fun us rest hl => ?_) fun A outer s H vs Q E hr h => ⟨GSs (Xf P w K mg base N qual (defScope st) f cdv A outer s H E) (defBody st), (pss_gss (X := Xf P w K mg base N qual (defScope st) f cdv A outer s H E)).nox, ?_⟩
  · have : us = [] := List.eq_nil_of_length_eq_zero hl
    subst this
    exact hbd kV doc pm an cdv ct rest
  · rw [← hps] at h
    exact fn_body hn hnp (fun B hB => hb B cdv A outer s H E hB hr) h
end
end PV

/-! PvT: the same rules with their side conditions filled in by rfl. -/
namespace PV
open PySem L2
/-- which names are the built-ins still -/
def Blts (mg : Str → Option Value) (l : List Str) : Prop := ∀ x ∈ l, mg x = none
theorem Blts.at {mg : Str → Option Value} {l : List Str} (h : Blts mg l) (x : Str) (hx : l.elem x = true) : mg x = none := h x (by simpa using hx)
section
variable {B : Bs} {X : Cx} {e a b c tg iter elt : Expr} {es ifs : List Expr} {pos pos' p : Pos} {np : Nat} {cf : Nat → List Sl → CRes} {ca cb cc ct ci cel cl ch : C} {x y : Str} {bl : List Str} {st : Stmt} {sts body : List Stmt}
theorem t_slot (i : Nat) (hN : X.N[i]? = some x := by rfl) (hv : Vis X.env.scope x := by first | exact .inl rfl | exact .inr (.inl rfl) | exact .inr (.inr rfl)) (hd : (x == ("__debug__" : Str)) = false := by rfl) (hcd : (x == ("__classdict__" : Str)) = false := by rfl) :
    SE B X (.Name x pos) (evE np cf (.slot i)) := se_slot hN hv hd hcd
theorem t_glob {v : V} {u : Value} {d : D} (hm : X.mg x = some u) (r : RelV v u) (q : ∀ F, Rp X.K F d v) (hg : Gl X x := by rfl) (hd : (x == ("__debug__" : Str)) = false := by rfl) : SE B X (.Name x pos) (evE np cf (.con d)) := se_c (pe_glob hg hm r hd) q
theorem t_cmp {op : CmpOp} (hu : X.A.units + 65 < cLine) (ha : SE B X a (evE np cf ca)) (hb : SE B X b (evE np cf cb)) (hm : behindInMarks op b = false := by rfl) : SE B X (.Compare a [op] [b] pos) (evE np cf (.cmp op ca cb)) := se_cmp hu ha hb hm
theorem t_chain {op op' : CmpOp} (hu : X.A.units + 65 < cLine) (ha : SE B X a (evE np cf ca)) (hb : SE B X b (evE np cf cb)) (hc : SE B X c (evE np cf cc)) (hl : lastMarks [op, op'] [b, c] = false := by rfl) : SE B X (.Compare a [op, op'] [b, c] pos) (evE np cf (.chain op op' ca cb cc)) := se_chain hu ha hb hc hl
theorem tt_cmp {op : CmpOp} (hu : X.A.units + 65 < cLine) (ha : SE B X a (evE np cf ca)) (hb : SE B X b (evE np cf cb)) (hm : behindInMarks op b = false := by rfl) : ST B X (.Compare a [op] [b] pos) (evT np cf (.tVal (.cmp op ca cb))) := st_cmp hu ha hb hm
theorem tt_chain {op op' : CmpOp} (hu : X.A.units + 65 < cLine) (ha : SE B X a (evE np cf ca)) (hb : SE B X b (evE np cf cb)) (hc : SE B X c (evE np cf cc)) (hl : lastMarks [op, op'] [b, c] = false := by rfl) : ST B X (.Compare a [op, op'] [b, c] pos) (evT np cf (.tVal (.chain op op' ca cb cc))) := st_chain hu ha hb hc hl
theorem tt_val (ha : SE B X a (evE np cf ca)) (he : ∀ whole, isTrue a X.env whole = (do let v ← whole; standAt a.pos; holding [v] (truthy v)) := by intro _; rfl) : ST B X a (evT np cf (.tVal ca)) := st_val ha he
theorem tl_cons (ha : SE B X a (evE np cf ca)) (hb : SL B X es (evEs np cf cb)) (hs : starEach (a :: es) X.env = (false, eval a X.env) :: starEach es X.env := by rfl) : SL B X (a :: es) (evEs np cf (.cons ca cb)) := sl_cons ha hb hs
theorem t_sub (ha : SE B X a (evE np cf ca)) (hb : SE B X b (evE np cf cb)) (hs : PlainIx b := by exact fun _ _ => rfl) : SE B X (.Subscript a b pos) (evE np cf (.sub ca cb)) := se_sub ha hb hs
theorem t_bi {bi : Bi} (hc : X.calm = true) (hb : Blts X.mg bl) (ha : SE B X a (evE np cf ca)) (hx : bl.elem x = true := by decide +kernel) (hg : Gl X x := by rfl) (hv : bootBuiltins x = some (biV bi) := by decide +kernel) (hn : x ≠ "__name__" := by decide) (hdb : (x == ("__debug__" : Str)) = false := by rfl)
    (hs : starEach [a] X.env = (false, eval a X.env) :: starEach [] X.env := by rfl) : SE B X (.Call (.Name x p) [a] [] pos) (evE np cf (.bi bi ca)) := se_bi hc hg (hb.at x hx) hv hn hdb hs ha
theorem t_bi2 {mx : Bool} (hc : X.calm = true) (hbl : Blts X.mg bl) (ha : SE B X a (evE np cf ca)) (hb : SE B X b (evE np cf cb)) (hx : bl.elem x = true := by decide +kernel) (hg : Gl X x := by rfl) (hv : bootBuiltins x = some (.builtin (if mx then "max" else "min")) := by decide +kernel) (hn : x ≠ "__name__" := by decide) (hdb : (x == ("__debug__" : Str)) = false := by rfl)
    (hs : starEach [a, b] X.env = (false, eval a X.env) :: starEach [b] X.env := by rfl) (hs' : starEach [b] X.env = (false, eval b X.env) :: starEach [] X.env := by rfl) (hpl : (backTo pos (starEach [b] X.env)).any (·.1) = false := by rfl) :
    SE B X (.Call (.Name x p) [a, b] [] pos) (evE np cf (.bi2 mx ca cb)) := se_bi2 hc hg (hbl.at x hx) hv hn hdb hs hs' hpl ha hb
theorem t_isi {t : Ty} {p2 : Pos} (hb : Blts X.mg bl) (ha : SE B X a (evE np cf ca)) (hx : bl.elem ("isinstance" : Str) = true := by decide +kernel) (hg : Gl X "isinstance" := by rfl) (hy : bl.elem y = true := by decide +kernel) (hgt : Gl X y := by rfl) (hvt : bootBuiltins y = some (.type (tyV t)) := by decide +kernel) (hn : y ≠ "__name__" := by decide) (hdb : (y == ("__debug__" : Str)) = false := by rfl)
    (hs : starEach [a, .Name y p2] X.env = (false, eval a X.env) :: starEach [.Name y p2] X.env := by rfl) : SE B X (.Call (.Name "isinstance" p) [a, .Name y p2] [] pos) (evE np cf (.isi t ca)) := se_isi hg (hb.at _ hx) hgt (hb.at _ hy) hvt hn hdb hs ha
theorem t_some (h : SE B X a (evE np cf ca)) (hc : ca ≠ .nil := by intro z; cases z) : SO B X (some a) ca (evE np cf ca) := so_some hc h
theorem t_join {apos : Pos} (ha : SE B X a (evE np cf ca)) (hb : SE B X b (evE np cf cb)) (hs : starEach [b] X.env = [(false, eval b X.env)] := by rfl) (hbase : attributeBase a "join" X.env (eval a X.env) = eval a X.env := by rfl) (hline : (apos.endLine == pos.line) = true := by rfl) :
    SE B X (.Call (.Attribute a "join" apos) [b] [] pos) (evE np cf (.join ca cb)) := se_join hs hbase hline ha hb
theorem ti_rng1 (hb : Blts X.mg bl) (ha : SE B X a (evE np cf ca)) (hx : bl.elem ("range" : Str) = true := by decide +kernel) (hg : Gl X "range" := by rfl) (hs : starEach [a] X.env = [(false, eval a X.env)] := by rfl) (hs' : starEach [a] X.env = (false, eval a X.env) :: starEach [] X.env := by rfl) :
    SI B X tg (.Call (.Name "range" p) [a] [] pos) (evI np cf (.iRng1 ca)) := si_rng1 hg (hb.at _ hx) hs hs' ha
theorem ti_rng2 (hbl : Blts X.mg bl) (ha : SE B X a (evE np cf ca)) (hb : SE B X b (evE np cf cb)) (hx : bl.elem ("range" : Str) = true := by decide +kernel) (hg : Gl X "range" := by rfl) (hs : starEach [a, b] X.env = [(false, eval a X.env), (false, eval b X.env)] := by rfl) (hs1 : starEach [a, b] X.env = (false, eval a X.env) :: starEach [b] X.env := by rfl)
    (hs2 : starEach [b] X.env = [(false, eval b X.env)] := by rfl) (hs3 : starEach [b] X.env = (false, eval b X.env) :: starEach [] X.env := by rfl) : SI B X tg (.Call (.Name "range" p) [a, b] [] pos) (evI np cf (.iRng2 ca cb)) := si_rng2 hg (hbl.at _ hx) hs hs1 hs2 hs3 ha hb
theorem t_lrng2 {q1 q2 : Pos} (hc : X.calm = true) (hbl : Blts X.mg bl) (ha : SE B X a (evE np cf ca)) (hb : SE B X b (evE np cf cb)) (hxl : bl.elem ("list" : Str) = true := by decide +kernel) (hx : bl.elem ("range" : Str) = true := by decide +kernel) (hgl : Gl X "list" := by rfl) (hg : Gl X "range" := by rfl)
    (hs1 : starEach [a, b] X.env = (false, eval a X.env) :: starEach [b] X.env := by rfl) (hs3 : starEach [b] X.env = (false, eval b X.env) :: starEach [] X.env := by rfl) (hpl : (backTo q2 (starEach [b] X.env)).any (·.1) = false := by rfl)
    (hs4 : starEach [Expr.Call (.Name "range" q1) [a, b] [] q2] X.env = (false, eval (.Call (.Name "range" q1) [a, b] [] q2) X.env) :: starEach [] X.env := by rfl) :
    SE B X (.Call (.Name "list" p) [.Call (.Name "range" q1) [a, b] [] q2] [] pos) (evE np cf (.lrng (.iRng2 ca cb))) := se_lrng2 hc hgl (hbl.at _ hxl) hg (hbl.at _ hx) hs1 hs3 hpl hs4 ha hb
theorem tg_name (i : Nat) (hN : X.N.Nodup) (hi : X.N[i]? = some x := by rfl) (hx : Loc X.env.scope x := by first | exact .inl rfl | exact .inr rfl) (hf : X.fn x = true ∨ X.env.scope.names.lookup x = some .local := by first | exact .inl rfl | exact .inr rfl) : SG B X (.Name x pos) (.tName i) := sg_name hN hi hx hf
theorem tgs_cons {ts : List Expr} (ht : SG B X a ca) (hts : SGs B X ts cb) (hs : (assignEach (a :: ts) X.env).map (·.2) = assign a X.env :: (assignEach ts X.env).map (·.2) := by rfl) : SGs B X (a :: ts) (.cons ca cb) := sgs_cons ht hts hs
theorem tg_tup {ts : List Expr} {k0 : Nat} (hc : X.calm = true) (h : SGs B X ts ca) (hn : (assignEach ts X.env).length = clen ca := by rfl) (hst : (assignEach ts X.env).findIdx? (·.1) = none := by rfl) : SG B X (.Tuple ts k0 pos) (.tTup ca) := sg_tup hc h hn hst fun l ρ ρ' q => bindTs_length ca l ρ ρ' q
theorem t_lc {scope : Scope} (own : List (Str × Nat)) (hc : X.calm = true) (hN : X.N.Nodup) (hi : SI B X tg iter (evI B.np cf ci)) (hg : ∀ s H C cl fp, SG B (Blk X scope s H C cl fp) tg ct) (ht : ∀ s H C cl fp, STs B (Blk X scope s H C cl fp) ifs (evT B.np cf cc))
    (he : ∀ s H C cl fp, SE B (Blk X scope s H C cl fp) elt (evE B.np cf cel)) (ok : blkC X.N X.env.scope scope own = true := by kernel_rfl) (htg : ∀ i ∈ tgS ct, i ∈ own.map (·.2) := by decide) (hs : ∀ x, foldedSetIterable iter X.env x = pure x := by intro _; rfl) :
    SE B X (.ListComp elt [⟨tg, iter, ifs, 0⟩] scope pos) (evE B.np cf (.lc cel ct ci cc (own.map (·.2)))) := se_lc hc hN rfl hi (blkOk_by ok) rfl htg hg ht he hs
theorem ts_setLc {i : Nat} {scope : Scope} (own : List (Str × Nat)) {py spos : Pos} (hc : X.calm = true) (hN : X.N.Nodup) (hi : SI B X tg iter (evI B.np cf ci)) (hg : ∀ s H C cl fp, SG B (Blk X scope s H C cl fp) tg ct) (ht : ∀ s H C cl fp, STs B (Blk X scope s H C cl fp) ifs (evT B.np cf cc))
    (he : ∀ s H C cl fp, SE B (Blk X scope s H C cl fp) elt (evE B.np cf cel)) (hk : X.env.scope.kind = .function := by rfl) (hy : X.N[i]? = some x := by rfl) (hyl : X.env.scope.names.lookup x = some .local := by rfl) (hl : (py.line == pos.line) = true := by rfl) (ha : (scope.names.any fun (n, k) => n == x && (k == .local || k == .cell)) = false := by decide +kernel)
    (ok : blkC X.N X.env.scope scope own = true := by kernel_rfl) (htg : ∀ i ∈ tgS ct, i ∈ own.map (·.2) := by decide) (hs : ∀ x, foldedSetIterable iter X.env x = pure x := by intro _; rfl) :
    SS B X (.Assign [.Name x py] (.ListComp elt [⟨tg, iter, ifs, 0⟩] scope pos) spos) (evS B.np cf (.sAsg (.tName i) (.lc cel ct ci cc (own.map (·.2))))) := ss_setLc hc hN hy hyl (sw_true hk hyl hl ha) hi (blkOk_by ok) rfl htg hg ht he hs
theorem ts_expr (he : SE B X e (evE B.np cf ca)) (hs : swapsWith e none pos.line X.env = pure false := by rfl) : SS B X (.Expr e pos) (evS B.np cf (.sExpr ca)) := ss_expr he hs
theorem ts_set {i : Nat} (hN : X.N.Nodup) (he : SE B X e (evE B.np cf ca)) (hi : X.N[i]? = some x := by rfl) (hx : Loc X.env.scope x := by first | exact .inl rfl | exact .inr rfl) (hs : swapsWith e (some (.Name x pos')) pos.line X.env = pure false := by rfl) (hf : X.fn x = true ∨ X.env.scope.names.lookup x = some .local := by first | exact .inl rfl | exact .inr rfl) :
    SS B X (.Assign [.Name x pos'] e pos) (evS B.np cf (.sAsg (.tName i) ca)) := ss_set hN hi hx hs hf he
theorem ts_asg (he : SE B X e (evE B.np cf ca)) (hg : SG B X tg (.tTup ct)) (hs : swapsWithSole [tg] e pos.line X.env = pure false := by rfl) (hw : swappedStores [tg] e X.env = pure none := by rfl) (h1 : (assignEach [tg] X.env).map (·.2) = [assign tg X.env] := by rfl) :
    SS B X (.Assign [tg] e pos) (evS B.np cf (.sAsg (.tTup ct) ca)) := ss_asg (fun i z => by cases z) hs hw h1 he hg
theorem ts_par {i j : Nat} {px py pt pt2 : Pos} {kt k2} (hc : X.calm = true) (hN : X.N.Nodup) (ha : SE B X a (evE B.np cf ca)) (hb : SE B X b (evE B.np cf cb)) (hi : X.N[i]? = some x := by rfl) (hj : X.N[j]? = some y := by rfl) (hij : i ≠ j := by decide)
    (hx : X.env.scope.names.lookup x = some .local := by rfl) (hy : X.env.scope.names.lookup y = some .local := by rfl) (hw : swappedStores [.Tuple [.Name x px, .Name y py] kt pt] (.Tuple [a, b] k2 pt2) X.env = pure (some [x, y]) := by rfl) (hs : swapsWithSole [.Tuple [.Name x px, .Name y py] kt pt] (.Tuple [a, b] k2 pt2) pos.line X.env = pure false := by rfl)
    (hs1 : starEach [a, b] X.env = (false, eval a X.env) :: starEach [b] X.env := by rfl) (hs2 : starEach [b] X.env = (false, eval b X.env) :: starEach [] X.env := by rfl) :
    SS B X (.Assign [.Tuple [.Name x px, .Name y py] kt pt] (.Tuple [a, b] k2 pt2) pos) (evS B.np cf (.sPar i j ca cb)) := ss_par hc hN hi hj hij hx hy hw hs hs1 hs2 ha hb
theorem ts_parT {i j : Nat} {px py pt pt2 : Pos} {kt k2} (hc : X.calm = true) (hN : X.N.Nodup) (ha : SE B X a (evE B.np cf ca)) (hb : SE B X b (evE B.np cf cb)) (hi : X.N[i]? = some x := by rfl) (hj : X.N[j]? = some y := by rfl)
    (hx : Loc X.env.scope x := by first | exact .inl rfl | exact .inr rfl) (hy : Loc X.env.scope y := by first | exact .inl rfl | exact .inr rfl) (hfx : X.fn x = true ∨ X.env.scope.names.lookup x = some .local := by first | exact .inl rfl | exact .inr rfl) (hfy : X.fn y = true ∨ X.env.scope.names.lookup y = some .local := by first | exact .inl rfl | exact .inr rfl)
    (hw : swappedStores [.Tuple [.Name x px, .Name y py] kt pt] (.Tuple [a, b] k2 pt2) X.env = pure none := by rfl) (hs : swapsWithSole [.Tuple [.Name x px, .Name y py] kt pt] (.Tuple [a, b] k2 pt2) pos.line X.env = pure false := by rfl)
    (hs1 : starEach [a, b] X.env = (false, eval a X.env) :: starEach [b] X.env := by rfl) (hs2 : starEach [b] X.env = (false, eval b X.env) :: starEach [] X.env := by rfl) :
    SS B X (.Assign [.Tuple [.Name x px, .Name y py] kt pt] (.Tuple [a, b] k2 pt2) pos) (evS B.np cf (.sPar i j ca cb)) := ss_parT hc hN hi hj hx hy hfx hfy hw hs hs1 hs2 ha hb
theorem ts_sub {o : Nat} {p2 p3 : Pos} (he : SE B X e (evE B.np cf ca)) (hi : SE B X a (evE B.np cf cb)) (ho : X.N[o]? = some x := by rfl) (hv : Vis X.env.scope x := by first | exact .inl rfl | exact .inr (.inl rfl) | exact .inr (.inr rfl)) (hd : (x == ("__debug__" : Str)) = false := by rfl) (hcd : (x == ("__classdict__" : Str)) = false := by rfl)
    (hs : swapsWithSole [.Subscript (.Name x p2) a p3] e pos.line X.env = pure false := by rfl) (hw : swappedStores [.Subscript (.Name x p2) a p3] e X.env = pure none := by rfl) (h1 : (assignEach [.Subscript (.Name x p2) a p3] X.env).map (·.2) = [assign (.Subscript (.Name x p2) a p3) X.env] := by rfl)
    (ha : ∀ v, assign (.Subscript (.Name x p2) a p3) X.env v = (do
      let ov ← holding [v] (eval (.Name x p2) X.env)
      let iv ← holding [v, ov] (eval a X.env)
      standAt p3
      holding [v, ov, iv] (setItem ov iv v)
      release [v, ov, iv] []) := by intro _; rfl) : SS B X (.Assign [.Subscript (.Name x p2) a p3] e pos) (evS B.np cf (.sSub o cb ca)) := ss_sub ho hv hd hcd hs hw h1 ha he hi
theorem ts_for (hp : PassesOwn (model X.prog X.w) X.A X.env X.xe) (hc : X.calm = true) (hi : SI B X tg iter (evI B.np cf ci)) (hg : SG B X tg ct) (hb : SSs B X body (evSs B.np cf cb)) (hs : ∀ x, foldedSetIterable iter X.env x = pure x := by intro _; rfl) :
    SS B X (.For tg iter body [] pos) (evS B.np cf (.sFor ct ci cb)) := ss_for hp hc hs hi hg hb
theorem tr_slot (i : Nat) (hb : SAr B X es (evAs np cf cb)) (hN : X.N[i]? = some x := by rfl) (hv : Vis X.env.scope x := by first | exact .inl rfl | exact .inr (.inl rfl) | exact .inr (.inr rfl)) (hd : (x == ("__debug__" : Str)) = false := by rfl) (hcd : (x == ("__classdict__" : Str)) = false := by rfl) (hs : starEach (.Name x p :: es) X.env = (false, eval (.Name x p) X.env) :: starEach es X.env := by rfl) :
    SAr B X (.Name x p :: es) (evAs np cf (.cons (.slot i) cb)) := sar_slot hN hv hd hcd hs hb
theorem tr_val (ha : SE B X a (evE np cf ca)) (hb : SAr B X es (evAs np cf cb)) (hc : ∀ i, ca ≠ .slot i := by intro i z; cases z) (hs : starEach (a :: es) X.env = (false, eval a X.env) :: starEach es X.env := by rfl) : SAr B X (a :: es) (evAs np cf (.cons ca cb)) := sar_val hc hs ha hb
theorem evAs_length : ∀ (ca : C) (ρ : Rho) (l : List Ar) (ρ' : Rho), evAs np cf ca ρ = .ok l ρ' → l.length = clen ca := by
  intro ca
  induction ca with
  | nil => intro ρ l ρ' h; cases h; rfl
  | cons e es _ ih =>
    intro ρ l ρ' h
    by_cases hs : ∃ i, e = .slot i
    · obtain ⟨i, rfl⟩ := hs
      have h : (match ρ[i]? with | some (.fz _) | some (.ow _) => (evAs np cf es ρ).bind fun l ρ => R.ok (Ar.slot i :: l) ρ | _ => .fail) = .ok l ρ' := h
      split at h
      · obtain ⟨l', ρ1, h1, m1⟩ := bind_ok h
        cases m1
        rw [List.length_cons, ih _ _ _ h1]
        rfl
      · obtain ⟨l', ρ1, h1, m1⟩ := bind_ok h
        cases m1
        rw [List.length_cons, ih _ _ _ h1]
        rfl
      · cases h
    · have h : (evE np cf e ρ).bind (fun r ρ => (toFz ρ r).bind fun d ρ => (evAs np cf es ρ).bind fun l ρ => R.ok (Ar.val d :: l) ρ) = .ok l ρ' := by
        cases e <;> first | exact absurd ⟨_, rfl⟩ hs | exact h
      obtain ⟨r, ρ1, h1, m1⟩ := bind_ok h
      obtain ⟨d, ρ2, h2, m2⟩ := bind_ok m1
      obtain ⟨l', ρ3, h3, m3⟩ := bind_ok m2
      cases m3
      rw [List.length_cons, ih _ _ _ h3]
      rfl
  | _ => intro ρ l ρ' h; cases h
theorem t_call {k n f : Nat} (C : Callee X.prog X.w X.K X.mg X.base k x n (cf f)) (hrm : Room k X.A) (ha : SAr B X (e :: es) (evAs np cf ca)) (hg : Gl X x := by rfl) (hdb : (x == ("__debug__" : Str)) = false := by rfl) (he : starEach (e :: es) X.env = (false, eval e X.env) :: starEach es X.env := by rfl)
    (hpl : (backTo pos (starEach es X.env)).any (·.1) = false := by rfl) (hlen : (e :: es).length = n := by rfl) (hal : clen ca = n := by rfl) : SE B X (.Call (.Name x p) (e :: es) [] pos) (evE np cf (.call f ca)) := se_call C hrm hg hdb he hpl hlen ha fun ρ l ρ' h => (evAs_length ca ρ l ρ' h).trans hal
theorem t_call1 {k fi : Nat} (C : Callee X.prog X.w X.K X.mg X.base k x 1 (cf fi)) (hrm : Room k X.A) (ha : SE B X e (evE np cf ca)) (hg : Gl X x := by rfl) (hdb : (x == ("__debug__" : Str)) = false := by rfl) (hs : starEach [e] X.env = (false, eval e X.env) :: starEach [] X.env := by rfl) :
    SE B X (.Call (.Name x p) [e] [] pos) (evE np cf (.call1 fi ca)) := se_call1 C hrm hg hdb hs ha
theorem t_callS {k f : Nat} (C : CalleeS X.prog X.w X.K X.mg X.base k x (cf f)) (hrm : Room k X.A) (ha : SL B X (e :: es) (evEs np cf ca)) (hg : Gl X x := by rfl) (hdb : (x == ("__debug__" : Str)) = false := by rfl) (he : starEach (e :: es) X.env = (false, eval e X.env) :: starEach es X.env := by rfl) (hpl : (backTo pos (starEach es X.env)).any (·.1) = false := by rfl) :
    SE B X (.Call (.Name x p) (e :: es) [] pos) (evE np cf (.callS f ca)) := se_callS C hrm hg hdb he hpl ha
theorem t_callS0 {k f : Nat} (C : CalleeS X.prog X.w X.K X.mg X.base k x (cf f)) (hrm : Room k X.A) (hg : Gl X x := by rfl) (hdb : (x == ("__debug__" : Str)) = false := by rfl) : SE B X (.Call (.Name x p) [] [] pos) (evE np cf (.callS f .nil)) := se_callS0 C hrm hg hdb
end
/-- room enough to compare -/
theorem room_cmp {k : Nat} {A : Around} (r : Room k A) : A.units + 65 < cLine := by have := r.un; omega
end PV
namespace PV
open PySem L2
section
variable {P : Program} {w : World} {K : PySem.W.Frag} {mg : Str → Option Value} {base : Heap} {f : Addr} {fd : FuncData} {ps : List Str}
theorem zeroF {fs : List Fn} {j np : Nat} (h : ps.length = np) : FnOk P w K mg base CX0 0 f fd ps (spF K np (run fs 0 j)) :=
  ⟨fun vs H Q E q => by rw [q.1, h], fun A outer s H args us vs Q E hr e0 hb hv q => by obtain ⟨_, _, _, _, _, _, z, _⟩ := q; cases z⟩
theorem zeroS {fs : List Fn} {j : Nat} : FnR P w K mg base CX0 0 f (spS K (run fs 0 j)) := by
  intro A outer s H us vs Q E hr e0 r q
  obtain ⟨ws, rest, _, _, _, q⟩ := q
  obtain ⟨_, _, _, _, _, _, z, _⟩ := q s.heap.objs.size (e0.hok.fresh (Nat.le_refl _))
  cases z
end
end PV

namespace K01
open PySem L2 PV
/-- is_integer: 0 value -/
def c0 : Fn := ⟨1, 1, (.cons (.sRet (.andV (.isi .int (.slot 0)) (.notV (.isi .bool (.slot 0))))) .nil)⟩
/-- is_number: 0 value -/
def c1 : Fn := ⟨1, 1, (.cons (.sRet (.andV (.call 0 (.cons (.slot 0) .nil)) (.cmp .GtE (.slot 0) (.con (.int 1))))) .nil)⟩
/-- require_many: 0 value -/
def c2 : Fn := ⟨1, 1, (.cons (.sIf (.tNot (.tVal (.call 1 (.cons (.slot 0) .nil)))) (.cons .sNever .nil) .nil) .nil)⟩
/-- is_place: 0 value 1 sign -/
def c3 : Fn := ⟨1, 2, (.cons (.sRet (.andV (.isi .str (.slot 0)) (.andV (.chain .LtE .LtE (.con (.int 1)) (.bi .len (.slot 0)) (.con (.int 8))) (.bi .all (.lc (.cmp .In (.slot 1) (.con (.str (Str.ofString "abcdefghijklmnopqrstuvwxyz")))) (.tName 1) (.iVal (.slot 0)) .nil [1]))))) .nil)⟩
/-- divisor_of: 0 one 1 other 2 left 3 right -/
def c4 : Fn := ⟨2, 4, (.cons (.sPar 2 3 (.bi .abs (.slot 0)) (.slot 1)) (.cons (.sWhile (.tVal (.cmp .Gt (.slot 2) (.con (.int 0)))) (.cons (.sPar 2 3 (.bin .Mod (.slot 3) (.slot 2)) (.slot 2)) .nil)) (.cons (.sRet (.slot 3)) .nil)))⟩
/-- is_fraction: 0 value -/
def c5 : Fn := ⟨1, 1, (.cons (.sIf (.tOr (.tNot (.tVal (.isi .tuple (.slot 0)))) (.tOr (.tVal (.cmp .NotEq (.bi .len (.slot 0)) (.con (.int 2)))) (.tOr (.tNot (.tVal (.call1 0 (.sub (.slot 0) (.con (.int 0)))))) (.tNot (.tVal (.call1 1 (.sub (.slot 0) (.con (.int 1))))))))) (.cons (.sRet (.con (.bl false))) .nil) .nil) (.cons (.sRet (.cmp .Eq (.call 4 (.cons (.sub (.slot 0) (.con (.int 0))) (.cons (.sub (.slot 0) (.con (.int 1))) .nil))) (.con (.int 1)))) .nil))⟩
/-- fraction_in: 0 numerator 1 denominator 2 shared -/
def c6 : Fn := ⟨2, 3, (.cons (.sAsg (.tName 2) (.call 4 (.cons (.slot 0) (.cons (.slot 1) .nil)))) (.cons (.sRet (.tup (.cons (.bin .FloorDiv (.slot 0) (.slot 2)) (.cons (.bin .FloorDiv (.slot 1) (.slot 2)) .nil)))) .nil))⟩
/-- fraction: 0 numerator 1 denominator -/
def c7 : Fn := ⟨2, 2, (.cons (.sIf (.tNot (.tVal (.call 0 (.cons (.slot 0) .nil)))) (.cons .sNever .nil) .nil) (.cons (.sIf (.tNot (.tVal (.call 0 (.cons (.slot 1) .nil)))) (.cons .sNever .nil) .nil) (.cons (.sExpr (.call 2 (.cons (.slot 1) .nil))) (.cons (.sRet (.call 6 (.cons (.slot 0) (.cons (.slot 1) .nil)))) .nil))))⟩
/-- require_fractions: 0 values 1 value -/
def c8 : Fn := ⟨1, 2, (.cons (.sIf (.tNot (.tVal (.bi .all (.lc (.call 5 (.cons (.slot 1) .nil)) (.tName 1) (.iVal (.slot 0)) .nil [1])))) (.cons .sNever .nil) .nil) .nil)⟩
/-- is_less: 0 one 1 other -/
def c9 : Fn := ⟨2, 2, (.cons (.sRet (.cmp .Lt (.bin .Mult (.sub (.slot 0) (.con (.int 0))) (.sub (.slot 1) (.con (.int 1)))) (.bin .Mult (.sub (.slot 1) (.con (.int 0))) (.sub (.slot 0) (.con (.int 1)))))) .nil)⟩
/-- is_lower: 0 one 1 other -/
def c10 : Fn := ⟨2, 2, (.cons (.sExpr (.call1 8 (.tup (.cons (.slot 0) (.cons (.slot 1) .nil))))) (.cons (.sRet (.call 9 (.cons (.slot 0) (.cons (.slot 1) .nil)))) .nil))⟩
/-- sum_in: 0 one 1 other -/
def c11 : Fn := ⟨2, 2, (.cons (.sRet (.call 6 (.cons (.bin .Add (.bin .Mult (.sub (.slot 0) (.con (.int 0))) (.sub (.slot 1) (.con (.int 1)))) (.bin .Mult (.sub (.slot 1) (.con (.int 0))) (.sub (.slot 0) (.con (.int 1))))) (.cons (.bin .Mult (.sub (.slot 0) (.con (.int 1))) (.sub (.slot 1) (.con (.int 1)))) .nil)))) .nil)⟩
/-- added: 0 fractions 1 found 2 value -/
def c12 : Fn := ⟨1, 3, (.cons (.sExpr (.call 8 (.cons (.slot 0) .nil))) (.cons (.sAsg (.tName 1) (.tup (.cons (.con (.int 0)) (.cons (.con (.int 1)) .nil)))) (.cons (.sFor (.tName 2) (.iVal (.slot 0)) (.cons (.sAsg (.tName 1) (.call 11 (.cons (.slot 1) (.cons (.slot 2) .nil)))) .nil)) (.cons (.sRet (.slot 1)) .nil))))⟩
/-- product_in: 0 one 1 other -/
def c13 : Fn := ⟨2, 2, (.cons (.sRet (.call 6 (.cons (.bin .Mult (.sub (.slot 0) (.con (.int 0))) (.sub (.slot 1) (.con (.int 0)))) (.cons (.bin .Mult (.sub (.slot 0) (.con (.int 1))) (.sub (.slot 1) (.con (.int 1)))) .nil)))) .nil)⟩
/-- multiplied: 0 fractions 1 found 2 value -/
def c14 : Fn := ⟨1, 3, (.cons (.sExpr (.call 8 (.cons (.slot 0) .nil))) (.cons (.sAsg (.tName 1) (.tup (.cons (.con (.int 1)) (.cons (.con (.int 1)) .nil)))) (.cons (.sFor (.tName 2) (.iVal (.slot 0)) (.cons (.sAsg (.tName 1) (.call 13 (.cons (.slot 1) (.cons (.slot 2) .nil)))) .nil)) (.cons (.sRet (.slot 1)) .nil))))⟩
/-- _law_dice: 0 _law_script 1 _law_at 2 _law_cell 3 _law_great 4 _law_left 5 _law_mixed -/
def c15 : Fn := ⟨2, 6, (.cons (.sAsg (.tName 2) (.bin .Add (.bin .Mult (.con (.int 89)) (.slot 1)) (.con (.int 61)))) (.cons (.sIf (.tVal (.cmp .Lt (.slot 1) (.bi .len (.slot 0)))) (.cons (.sAsg (.tName 2) (.sub (.slot 0) (.slot 1))) .nil) .nil) (.cons (.sAsg (.tName 3) (.bin .Mod (.bi .int (.bi .abs (.slot 2))) (.bin .Pow (.bin .Pow (.con (.int 10)) (.con (.int 60))) (.con (.int 10))))) (.cons (.sAsg (.tName 4) (.bin .FloorDiv (.slot 3) (.bin .Pow (.con (.int 10)) (.con (.int 18))))) (.cons (.sAsg (.tName 5) (.bin .Add (.bin .Add (.bin .Add (.bin .Mult (.bin .Mod (.slot 3) (.con (.int 2147482873))) (.con (.int 60493))) (.bin .Mult (.con (.int 3491)) (.slot 1))) (.bin .Mult (.con (.int 67)) (.bi .int (.cmp .Lt (.slot 2) (.con (.int 0)))))) (.con (.int 97)))) (.cons (.sRet (.lst (.cons (.slot 4) (.cons (.bin .Mod (.slot 5) (.con (.int 2147482867))) (.cons (.con (.int 0)) .nil))))) .nil))))))⟩
/-- _law_roll: 0 _law_dice_here 1 _law_total 2 _law_size 3 _law_one 4 _law_two 5 _law_drawn_here -/
def c16 : Fn := ⟨2, 6, (.cons (.sAsg (.tName 2) (.bi .int (.slot 1))) (.cons (.sIf (.tVal (.cmp .Gt (.sub (.slot 0) (.con (.int 0))) (.con (.int 0)))) (.cons (.sAsg (.tName 5) (.bin .Mod (.sub (.slot 0) (.con (.int 0))) (.slot 2))) (.cons (.sSub 0 (.con (.int 0)) (.bin .FloorDiv (.sub (.slot 0) (.con (.int 0))) (.slot 2))) (.cons (.sRet (.bi .int (.slot 5))) .nil))) .nil) (.cons (.sSub 0 (.con (.int 2)) (.bin .Add (.sub (.slot 0) (.con (.int 2))) (.con (.int 1)))) (.cons (.sAsg (.tName 3) (.bin .Mod (.bin .Add (.sub (.slot 0) (.con (.int 1))) (.bin .Mult (.con (.int 1000303)) (.sub (.slot 0) (.con (.int 2))))) (.con (.int 2305843009213693951)))) (.cons (.sAsg (.tName 4) (.bin .Add (.bin .Mult (.bin .Mod (.bin .Mult (.slot 3) (.slot 3)) (.con (.int 2305843009213693921))) (.slot 3)) (.bin .Mult (.con (.int 9461)) (.sub (.slot 0) (.con (.int 2)))))) (.cons (.sAsg (.tName 4) (.bin .Mod (.slot 4) (.con (.int 2305843009213693907)))) (.cons (.sRet (.bi .int (.bin .Mod (.bin .FloorDiv (.slot 4) (.con (.int 4096))) (.slot 2)))) .nil)))))))⟩
/-- _law_one_of: 0 _law_dice_here 1 _law_items -/
def c17 : Fn := ⟨2, 2, (.cons (.sRet (.sub (.slot 1) (.call 16 (.cons (.slot 0) (.cons (.bi .len (.slot 1)) .nil))))) .nil)⟩
/-- _law_lowest: 0 _law_numerator 1 _law_denominator 2 _law_one 3 _law_other -/
def c18 : Fn := ⟨2, 4, (.cons (.sPar 2 3 (.bi .abs (.slot 0)) (.slot 1)) (.cons (.sWhile (.tVal (.cmp .Gt (.slot 3) (.con (.int 0)))) (.cons (.sPar 2 3 (.slot 3) (.bin .Mod (.bi .int (.slot 2)) (.slot 3))) .nil)) (.cons (.sRet (.tup (.cons (.bin .FloorDiv (.slot 0) (.slot 2)) (.cons (.bin .FloorDiv (.slot 1) (.slot 2)) .nil)))) .nil)))⟩
/-- _law_less: 0 _law_one 1 _law_other -/
def c19 : Fn := ⟨2, 2, (.cons (.sRet (.cmp .Lt (.bin .Mult (.sub (.slot 0) (.con (.int 0))) (.sub (.slot 1) (.con (.int 1)))) (.bin .Mult (.sub (.slot 1) (.con (.int 0))) (.sub (.slot 0) (.con (.int 1)))))) .nil)⟩
/-- _law_is_lowest: 0 _law_one 1 _law_some 2 _law_top 3 _law_low 4 _law_by -/
def c20 : Fn := ⟨1, 5, (.cons (.sPar 2 3 (.bi .int (.sub (.slot 0) (.con (.int 0)))) (.bi .int (.sub (.slot 0) (.con (.int 1))))) (.cons (.sAsg (.tName 1) (.lrng (.iRng2 (.con (.int 2)) (.bin .Add (.bin .Add (.bi .abs (.slot 2)) (.slot 3)) (.con (.int 1)))))) (.cons (.sRet (.andV (.cmp .Gt (.slot 3) (.con (.int 0))) (.cmp .Eq (.lc (.slot 4) (.tName 4) (.iVal (.slot 1)) (.tAnd (.tVal (.cmp .Eq (.bin .Mod (.slot 2) (.slot 4)) (.con (.int 0)))) (.tVal (.cmp .Eq (.bin .Mod (.slot 3) (.slot 4)) (.con (.int 0))))) [4]) (.lst .nil)))) .nil)))⟩
/-- _law_drawn: 0 _law_dice_here 1 _law_great -/
def c21 : Fn := ⟨1, 2, (.cons (.sAsg (.tName 1) (.call 17 (.cons (.slot 0) (.cons (.lst (.cons (.con (.int 5)) (.cons (.con (.int 13)) (.cons (.con (.int 40)) .nil)))) .nil)))) (.cons (.sRet (.tup (.cons (.bin .Sub (.call 16 (.cons (.slot 0) (.cons (.bin .Mult (.con (.int 2)) (.slot 1)) .nil))) (.slot 1)) (.cons (.bin .Add (.con (.int 1)) (.call 16 (.cons (.slot 0) (.cons (.slot 1) .nil)))) .nil)))) .nil))⟩
/-- _law_sums_right: 0 _law_rows 1 _law_one 2 _law_told 3 _law_total 4 _law_product -/
def c22 : Fn := ⟨1, 5, (.cons (.sPar 3 4 (.tup (.cons (.con (.int 0)) (.cons (.con (.int 1)) .nil))) (.tup (.cons (.con (.int 1)) (.cons (.con (.int 1)) .nil)))) (.cons (.sFor (.tName 1) (.iVal (.slot 0)) (.cons (.sAsg (.tName 3) (.tup (.cons (.bin .Add (.bin .Mult (.sub (.slot 3) (.con (.int 0))) (.sub (.slot 1) (.con (.int 1)))) (.bin .Mult (.sub (.slot 1) (.con (.int 0))) (.sub (.slot 3) (.con (.int 1))))) (.cons (.bin .Mult (.sub (.slot 3) (.con (.int 1))) (.sub (.slot 1) (.con (.int 1)))) .nil)))) (.cons (.sAsg (.tName 4) (.tup (.cons (.bin .Mult (.sub (.slot 4) (.con (.int 0))) (.sub (.slot 1) (.con (.int 0)))) (.cons (.bin .Mult (.sub (.slot 4) (.con (.int 1))) (.sub (.slot 1) (.con (.int 1)))) .nil)))) .nil))) (.cons (.sAsg (.tName 2) (.lst (.cons (.callS 12 .nil) (.cons (.callS 14 .nil) .nil)))) (.cons (.sIf (.tVal (.cmp .Eq (.bi .len (.slot 0)) (.con (.int 1)))) (.cons (.sAsg (.tName 2) (.lst (.cons (.callS 12 (.cons (.sub (.slot 0) (.con (.int 0))) .nil)) (.cons (.callS 14 (.cons (.sub (.slot 0) (.con (.int 0))) .nil)) .nil)))) .nil) .nil) (.cons (.sIf (.tVal (.cmp .Eq (.bi .len (.slot 0)) (.con (.int 2)))) (.cons (.sAsg (.tName 2) (.lst (.cons (.callS 12 (.cons (.sub (.slot 0) (.con (.int 0))) (.cons (.sub (.slot 0) (.con (.int 1))) .nil))) (.cons (.callS 14 (.cons (.sub (.slot 0) (.con (.int 0))) (.cons (.sub (.slot 0) (.con (.int 1))) .nil))) .nil)))) .nil) .nil) (.cons (.sIf (.tVal (.cmp .Eq (.bi .len (.slot 0)) (.con (.int 3)))) (.cons (.sAsg (.tName 2) (.lst (.cons (.callS 12 (.cons (.sub (.slot 0) (.con (.int 0))) (.cons (.sub (.slot 0) (.con (.int 1))) (.cons (.sub (.slot 0) (.con (.int 2))) .nil)))) (.cons (.callS 14 (.cons (.sub (.slot 0) (.con (.int 0))) (.cons (.sub (.slot 0) (.con (.int 1))) (.cons (.sub (.slot 0) (.con (.int 2))) .nil)))) .nil)))) .nil) .nil) (.cons (.sRet (.cmp .Eq (.slot 2) (.lst (.cons (.call 18 (.cons (.sub (.slot 3) (.con (.int 0))) (.cons (.sub (.slot 3) (.con (.int 1))) .nil))) (.cons (.call 18 (.cons (.sub (.slot 4) (.con (.int 0))) (.cons (.sub (.slot 4) (.con (.int 1))) .nil))) .nil))))) .nil)))))))⟩
/-- _law_right: 0 _law_dice_here 1 _law_pairs 2 _law_rows 3 _law_near 4 _law_due 5 _law_one 6 _law_other 7 _law_by 8 _law_far 9 _law_turn 10 _law_many -/
def c23 : Fn := ⟨1, 11, (.cons (.sAsg (.tName 1) (.lc (.call 21 (.cons (.slot 0) .nil)) (.tName 9) (.iRng1 (.con (.int 3))) .nil [9])) (.cons (.sAsg (.tName 2) (.lc (.call 7 (.cons (.slot 5) (.cons (.slot 6) .nil))) (.tTup (.cons (.tName 5) (.cons (.tName 6) .nil))) (.iVal (.slot 1)) .nil [5, 6])) (.cons (.sIf (.tVal (.cmp .NotEq (.slot 2) (.lc (.call 18 (.cons (.slot 5) (.cons (.slot 6) .nil))) (.tTup (.cons (.tName 5) (.cons (.tName 6) .nil))) (.iVal (.slot 1)) .nil [5, 6]))) (.cons (.sRet (.con (.bl false))) .nil) .nil) (.cons (.sIf (.tVal (.cmp .NotEq (.lc (.slot 5) (.tName 5) (.iVal (.slot 2)) (.tNot (.tVal (.call 20 (.cons (.slot 5) .nil)))) [5]) (.lst .nil))) (.cons (.sRet (.con (.bl false))) .nil) .nil) (.cons (.sFor (.tTup (.cons (.tName 5) (.cons (.tName 6) .nil))) (.iVal (.lst (.cons (.tup (.cons (.sub (.slot 2) (.con (.int 0))) (.cons (.sub (.slot 2) (.con (.int 1))) .nil))) (.cons (.tup (.cons (.sub (.slot 2) (.con (.int 1))) (.cons (.sub (.slot 2) (.con (.int 2))) .nil))) (.cons (.tup (.cons (.sub (.slot 2) (.con (.int 2))) (.cons (.sub (.slot 2) (.con (.int 2))) .nil))) .nil))))) (.cons (.sIf (.tOr (.tVal (.cmp .NotEq (.call 10 (.cons (.slot 5) (.cons (.slot 6) .nil))) (.call 19 (.cons (.slot 5) (.cons (.slot 6) .nil))))) (.tAnd (.tVal (.call 10 (.cons (.slot 5) (.cons (.slot 6) .nil)))) (.tVal (.call 10 (.cons (.slot 6) (.cons (.slot 5) .nil)))))) (.cons (.sRet (.con (.bl false))) .nil) .nil) .nil)) (.cons (.sIf (.tVal (.cmp .NotEq (.lc (.slot 10) (.tName 10) (.iRng1 (.con (.int 4))) (.tNot (.tVal (.call1 22 (.slc (.slot 2) .nil (.slot 10))))) [10]) (.lst .nil))) (.cons (.sRet (.con (.bl false))) .nil) .nil) (.cons (.sPar 7 8 (.bin .Add (.con (.int 2)) (.call 16 (.cons (.slot 0) (.cons (.con (.int 5)) .nil)))) (.bin .Add (.bin .Pow (.con (.int 10)) (.con (.int 11))) (.call 16 (.cons (.slot 0) (.cons (.con (.int 1000)) .nil))))) (.cons (.sIf (.tOr (.tVal (.cmp .NotEq (.call 7 (.cons (.bin .Mult (.sub (.sub (.slot 1) (.con (.int 0))) (.con (.int 0))) (.slot 7)) (.cons (.bin .Mult (.sub (.sub (.slot 1) (.con (.int 0))) (.con (.int 1))) (.slot 7)) .nil))) (.sub (.slot 2) (.con (.int 0))))) (.tVal (.cmp .NotEq (.call 7 (.cons (.slot 8) (.cons (.slot 8) .nil))) (.tup (.cons (.con (.int 1)) (.cons (.con (.int 1)) .nil)))))) (.cons (.sRet (.con (.bl false))) .nil) .nil) (.cons (.sAsg (.tName 3) (.lst (.cons (.sub (.slot 2) (.con (.int 0))) (.cons (.sub (.slot 1) (.con (.int 0))) (.cons (.tup (.cons (.sub (.sub (.slot 2) (.con (.int 0))) (.con (.int 0))) (.cons (.con (.int 0)) .nil))) (.cons (.tup (.cons (.sub (.sub (.slot 2) (.con (.int 0))) (.con (.int 0))) (.cons (.neg (.con (.int 1))) .nil))) (.cons (.bin .Add (.sub (.slot 2) (.con (.int 0))) (.tup (.cons (.con (.int 1)) .nil))) (.cons (.bi .list (.sub (.slot 2) (.con (.int 0)))) (.cons (.tup (.cons (.con (.bl true)) (.cons (.con (.int 2)) .nil))) .nil))))))))) (.cons (.sAsg (.tName 3) (.bin .Add (.slot 3) (.lst (.cons (.tup (.cons (.con (.int 1)) (.cons (.con (.bl true)) .nil))) (.cons (.con .non) (.cons (.con (.int 3)) .nil)))))) (.cons (.sAsg (.tName 4) (.bin .Add (.lst (.cons (.con (.bl true)) (.cons (.call1 20 (.sub (.slot 1) (.con (.int 0)))) .nil))) (.bin .Mult (.lst (.cons (.con (.bl false)) .nil)) (.con (.int 8))))) (.cons (.sRet (.andV (.cmp .Eq (.lc (.call 5 (.cons (.slot 5) .nil)) (.tName 5) (.iVal (.slot 3)) .nil [5]) (.slot 4)) (.cmp .Is (.call1 5 (.tup (.cons (.con (.int 0)) (.cons (.con (.int 2)) .nil)))) (.con (.bl false))))) .nil))))))))))))⟩
/-- _law_places_right: 0 _law_dice_here 1 _law_word 2 _law_near 3 _law_turn 4 _law_one -/
def c24 : Fn := ⟨1, 5, (.cons (.sAsg (.tName 1) (.join (.con (.str (Str.ofString ""))) (.lc (.call 17 (.cons (.slot 0) (.cons (.bi .list (.con (.str (Str.ofString "abcdefghijklmnopqrstuvwxyz")))) .nil))) (.tName 3) (.iRng1 (.bin .Add (.con (.int 1)) (.call 16 (.cons (.slot 0) (.cons (.con (.int 8)) .nil))))) .nil [3]))) (.cons (.sAsg (.tName 2) (.lst (.cons (.slot 1) (.cons (.bin .Add (.slot 1) (.con (.str (Str.ofString "qqqqqqqq")))) (.cons (.bin .Add (.slot 1) (.con (.str (Str.ofString "A")))) (.cons (.con (.str (Str.ofString ""))) (.cons (.bin .Add (.slot 1) (.con (.str (Str.ofString " ")))) (.cons (.tup (.cons (.slot 1) .nil)) (.cons (.con .non) (.cons (.con (.int 0)) (.cons (.con (.bl true)) (.cons (.lst (.cons (.slot 1) .nil)) (.cons .dict0 (.cons (.bin .Add (.slot 1) (.con (.str (Str.ofString "1")))) .nil)))))))))))))) (.cons (.sRet (.cmp .Eq (.lc (.call 3 (.cons (.slot 4) .nil)) (.tName 4) (.iVal (.slot 2)) .nil [4]) (.bin .Add (.lst (.cons (.con (.bl true)) .nil)) (.bin .Mult (.lst (.cons (.con (.bl false)) .nil)) (.con (.int 11)))))) .nil)))⟩
/-- law: 0 _law_script 1 _law_spot 2 _law_told 3 _law_dice_here -/
def c25 : Fn := ⟨1, 4, (.cons (.sFor (.tName 1) (.iRng1 (.bi2 true (.con (.int 1)) (.bi2 false (.con (.int 8)) (.bi .len (.slot 0))))) (.cons (.sAsg (.tName 3) (.call 15 (.cons (.slot 0) (.cons (.slot 1) .nil)))) (.cons (.sIf (.tOr (.tNot (.tVal (.call 23 (.cons (.slot 3) .nil)))) (.tNot (.tVal (.call 24 (.cons (.slot 3) .nil))))) (.cons (.sRet (.con (.bl false))) .nil) .nil) .nil))) (.cons (.sAsg (.tName 2) (.lst (.cons (.call 7 (.cons (.con (.int 6)) (.cons (.con (.int 4)) .nil))) (.cons (.call 7 (.cons (.neg (.con (.int 2))) (.cons (.con (.int 6)) .nil))) (.cons (.call 7 (.cons (.con (.int 0)) (.cons (.con (.int 7)) .nil))) (.cons (.callS 12 (.cons (.tup (.cons (.con (.int 1)) (.cons (.con (.int 2)) .nil))) (.cons (.tup (.cons (.con (.int 2)) (.cons (.con (.int 3)) .nil))) .nil))) (.cons (.callS 14 (.cons (.tup (.cons (.con (.int 1)) (.cons (.con (.int 2)) .nil))) (.cons (.tup (.cons (.con (.int 2)) (.cons (.con (.int 3)) .nil))) .nil))) .nil))))))) (.cons (.sRet (.andV (.cmp .Eq (.slot 2) (.lst (.cons (.tup (.cons (.con (.int 3)) (.cons (.con (.int 2)) .nil))) (.cons (.tup (.cons (.neg (.con (.int 1))) (.cons (.con (.int 3)) .nil))) (.cons (.tup (.cons (.con (.int 0)) (.cons (.con (.int 1)) .nil))) (.cons (.tup (.cons (.con (.int 7)) (.cons (.con (.int 6)) .nil))) (.cons (.tup (.cons (.con (.int 1)) (.cons (.con (.int 3)) .nil))) .nil))))))) (.cmp .Eq (.con (.int 8)) (.con (.int 8))))) .nil)))⟩
def code : List Fn := [c0, c1, c2, c3, c4, c5, c6, c7, c8, c9, c10, c11, c12, c13, c14, c15, c16, c17, c18, c19, c20, c21, c22, c23, c24, c25]
theorem r0 (n : Nat) (ps : List Sl) : PV.run code (n + 1) 0 ps = runF (PV.run code n) c0 ps := rfl
theorem r1 (n : Nat) (ps : List Sl) : PV.run code (n + 1) 1 ps = runF (PV.run code n) c1 ps := rfl
theorem r2 (n : Nat) (ps : List Sl) : PV.run code (n + 1) 2 ps = runF (PV.run code n) c2 ps := rfl
theorem r3 (n : Nat) (ps : List Sl) : PV.run code (n + 1) 3 ps = runF (PV.run code n) c3 ps := rfl
theorem r4 (n : Nat) (ps : List Sl) : PV.run code (n + 1) 4 ps = runF (PV.run code n) c4 ps := rfl
theorem r5 (n : Nat) (ps : List Sl) : PV.run code (n + 1) 5 ps = runF (PV.run code n) c5 ps := rfl
theorem r6 (n : Nat) (ps : List Sl) : PV.run code (n + 1) 6 ps = runF (PV.run code n) c6 ps := rfl
theorem r7 (n : Nat) (ps : List Sl) : PV.run code (n + 1) 7 ps = runF (PV.run code n) c7 ps := rfl
theorem r8 (n : Nat) (ps : List Sl) : PV.run code (n + 1) 8 ps = runF (PV.run code n) c8 ps := rfl
theorem r9 (n : Nat) (ps : List Sl) : PV.run code (n + 1) 9 ps = runF (PV.run code n) c9 ps := rfl
theorem r10 (n : Nat) (ps : List Sl) : PV.run code (n + 1) 10 ps = runF (PV.run code n) c10 ps := rfl
theorem r11 (n : Nat) (ps : List Sl) : PV.run code (n + 1) 11 ps = runF (PV.run code n) c11 ps := rfl
theorem r12 (n : Nat) (ps : List Sl) : PV.run code (n + 1) 12 ps = runF (PV.run code n) c12 ps := rfl
theorem r13 (n : Nat) (ps : List Sl) : PV.run code (n + 1) 13 ps = runF (PV.run code n) c13 ps := rfl
theorem r14 (n : Nat) (ps : List Sl) : PV.run code (n + 1) 14 ps = runF (PV.run code n) c14 ps := rfl
theorem r15 (n : Nat) (ps : List Sl) : PV.run code (n + 1) 15 ps = runF (PV.run code n) c15 ps := rfl
theorem r16 (n : Nat) (ps : List Sl) : PV.run code (n + 1) 16 ps = runF (PV.run code n) c16 ps := rfl
theorem r17 (n : Nat) (ps : List Sl) : PV.run code (n + 1) 17 ps = runF (PV.run code n) c17 ps := rfl
theorem r18 (n : Nat) (ps : List Sl) : PV.run code (n + 1) 18 ps = runF (PV.run code n) c18 ps := rfl
theorem r19 (n : Nat) (ps : List Sl) : PV.run code (n + 1) 19 ps = runF (PV.run code n) c19 ps := rfl
theorem r20 (n : Nat) (ps : List Sl) : PV.run code (n + 1) 20 ps = runF (PV.run code n) c20 ps := rfl
theorem r21 (n : Nat) (ps : List Sl) : PV.run code (n + 1) 21 ps = runF (PV.run code n) c21 ps := rfl
theorem r22 (n : Nat) (ps : List Sl) : PV.run code (n + 1) 22 ps = runF (PV.run code n) c22 ps := rfl
theorem r23 (n : Nat) (ps : List Sl) : PV.run code (n + 1) 23 ps = runF (PV.run code n) c23 ps := rfl
theorem r24 (n : Nat) (ps : List Sl) : PV.run code (n + 1) 24 ps = runF (PV.run code n) c24 ps := rfl
theorem r25 (n : Nat) (ps : List Sl) : PV.run code (n + 1) 25 ps = runF (PV.run code n) c25 ps := rfl
end K01

namespace K01
open PySem L2 PV
def topS (i : Nat) : Stmt := PySem.Challenge.pw_downsets_k01_whole_fractions_in_lowest_t.main.body.getD i (.Pass ⟨0, 0, 0, 0⟩)
def bltN : List Str := ["abs", "all", "bool", "int", "isinstance", "len", "list", "max", "min", "range", "str", "tuple"]
section
variable {P : Program} {w : World} {K : PySem.W.Frag} {mg : Str → Option Value} {base : Heap}
theorem s0 : FnScope ["value"] ["value"] (defScope (topS 7)) := ⟨rfl, rfl, rfl, by decide +kernel, rfl, by decide +kernel, by decide +kernel⟩
theorem b0 {k : Nat} {cf : Nat → List Sl → CRes} (hbl : Blts mg bltN) {f : Addr} (B : Bs) (cdv : Value) (A : Around) (outer : List Env) (s : Shared) (H : Hp) (E : XK) (_ : B.np = c0.np) (hr : Room k (A.deeper (PyProof.Rows.envOfC "is_integer" (defScope (topS 7)) s.heap.objs.size f cdv))) :
    SSs B (Xf P w K mg base ["value"] "is_integer" (defScope (topS 7)) f cdv A outer s H E) (defBody (topS 7)) (evSs B.np cf c0.body) := by
  have hu := room_cmp hr
  have sN := s0.nd
  exact (sss_cons (ss_ret (se_and (t_isi hbl (t_slot 0)) (se_one (se_not (t_isi hbl (t_slot 0)))))) sss_nil)
theorem s1 : FnScope ["value"] ["value"] (defScope (topS 8)) := ⟨rfl, rfl, rfl, by decide +kernel, rfl, by decide +kernel, by decide +kernel⟩
theorem b1 {k : Nat} {cf : Nat → List Sl → CRes} (hbl : Blts mg bltN) (k0 : Callee P w K mg base k "is_integer" 1 (cf 0)) {f : Addr} (B : Bs) (cdv : Value) (A : Around) (outer : List Env) (s : Shared) (H : Hp) (E : XK) (_ : B.np = c1.np) (hr : Room k (A.deeper (PyProof.Rows.envOfC "is_number" (defScope (topS 8)) s.heap.objs.size f cdv))) :
    SSs B (Xf P w K mg base ["value"] "is_number" (defScope (topS 8)) f cdv A outer s H E) (defBody (topS 8)) (evSs B.np cf c1.body) := by
  have hu := room_cmp hr
  have sN := s1.nd
  exact (sss_cons (ss_ret (se_and (t_call k0 hr (tr_slot 0 sar_nil)) (se_one (t_cmp hu (t_slot 0) se_int)))) sss_nil)
theorem s2 : FnScope ["value"] ["value"] (defScope (topS 9)) := ⟨rfl, rfl, rfl, by decide +kernel, rfl, by decide +kernel, by decide +kernel⟩
theorem b2 {k : Nat} {cf : Nat → List Sl → CRes} (hbl : Blts mg bltN) (k1 : Callee P w K mg base k "is_number" 1 (cf 1)) {f : Addr} (B : Bs) (cdv : Value) (A : Around) (outer : List Env) (s : Shared) (H : Hp) (E : XK) (_ : B.np = c2.np) (hr : Room k (A.deeper (PyProof.Rows.envOfC "require_many" (defScope (topS 9)) s.heap.objs.size f cdv))) :
    SSs B (Xf P w K mg base ["value"] "require_many" (defScope (topS 9)) f cdv A outer s H E) (defBody (topS 9)) (evSs B.np cf c2.body) := by
  have hu := room_cmp hr
  have sN := s2.nd
  exact (sss_cons (ss_if (st_not (tt_val (t_call k1 hr (tr_slot 0 sar_nil)))) (sss_cons ss_never sss_nil) sss_nil) sss_nil)
theorem s3 : FnScope ["value", "sign"] ["value"] (defScope (topS 10)) := ⟨rfl, rfl, rfl, by decide +kernel, rfl, by decide +kernel, by decide +kernel⟩
theorem b3 {k : Nat} {cf : Nat → List Sl → CRes} (hbl : Blts mg bltN) {t_LETTERS : Tok} (hg_LETTERS : mg "LETTERS" = some (.str (Str.ofString "abcdefghijklmnopqrstuvwxyz") t_LETTERS)) {t_MAX_LETTERS : Tok} (hg_MAX_LETTERS : mg "MAX_LETTERS" = some (.int 8 t_MAX_LETTERS)) {f : Addr} (B : Bs) (cdv : Value) (A : Around) (outer : List Env) (s : Shared) (H : Hp) (E : XK) (_ : B.np = c3.np) (hr : Room k (A.deeper (PyProof.Rows.envOfC "is_place" (defScope (topS 10)) s.heap.objs.size f cdv))) :
    SSs B (Xf P w K mg base ["value", "sign"] "is_place" (defScope (topS 10)) f cdv A outer s H E) (defBody (topS 10)) (evSs B.np cf c3.body) := by
  have hu := room_cmp hr
  have sN := s3.nd
  exact (sss_cons (ss_ret (se_and (t_isi hbl (t_slot 0)) (se_and (t_chain hu se_int (t_bi rfl hbl (t_slot 0)) (t_glob (v := .int 8) hg_MAX_LETTERS ⟨_, rfl⟩ (fun _ => rfl))) (se_one (t_bi rfl hbl (t_lc [("sign", 1)] rfl sN (si_val (t_slot 0)) (fun _ _ _ _ _ => (tg_name 1 sN)) (fun _ _ _ _ _ => sts_nil) (fun _ _ _ _ _ => (t_cmp hu (t_slot 1) (t_glob (v := .str (Str.ofString "abcdefghijklmnopqrstuvwxyz")) hg_LETTERS ⟨_, rfl⟩ (fun _ => rfl)))))))))) sss_nil)
theorem s4 : FnScope ["one", "other", "left", "right"] ["one", "other"] (defScope (topS 11)) := ⟨rfl, rfl, rfl, by decide +kernel, rfl, by decide +kernel, by decide +kernel⟩
theorem b4 {k : Nat} {cf : Nat → List Sl → CRes} (hbl : Blts mg bltN) {f : Addr} (B : Bs) (cdv : Value) (A : Around) (outer : List Env) (s : Shared) (H : Hp) (E : XK) (_ : B.np = c4.np) (hr : Room k (A.deeper (PyProof.Rows.envOfC "divisor_of" (defScope (topS 11)) s.heap.objs.size f cdv))) :
    SSs B (Xf P w K mg base ["one", "other", "left", "right"] "divisor_of" (defScope (topS 11)) f cdv A outer s H E) (defBody (topS 11)) (evSs B.np cf c4.body) := by
  have hu := room_cmp hr
  have sN := s4.nd
  exact (sss_cons (ts_par rfl sN (t_bi rfl hbl (t_slot 0)) (t_slot 1)) (sss_cons (ss_while PassesOwn.never (tt_cmp hu (t_slot 2) se_int) (sss_cons (ts_par rfl sN (se_bin (t_slot 3) (t_slot 2)) (t_slot 2)) sss_nil)) (sss_cons (ss_ret (t_slot 3)) sss_nil)))
theorem s5 : FnScope ["value"] ["value"] (defScope (topS 12)) := ⟨rfl, rfl, rfl, by decide +kernel, rfl, by decide +kernel, by decide +kernel⟩
theorem b5 {k : Nat} {cf : Nat → List Sl → CRes} (hbl : Blts mg bltN) (k0 : Callee P w K mg base k "is_integer" 1 (cf 0)) (k1 : Callee P w K mg base k "is_number" 1 (cf 1)) (k4 : Callee P w K mg base k "divisor_of" 2 (cf 4)) {f : Addr} (B : Bs) (cdv : Value) (A : Around) (outer : List Env) (s : Shared) (H : Hp) (E : XK) (_ : B.np = c5.np) (hr : Room k (A.deeper (PyProof.Rows.envOfC "is_fraction" (defScope (topS 12)) s.heap.objs.size f cdv))) :
    SSs B (Xf P w K mg base ["value"] "is_fraction" (defScope (topS 12)) f cdv A outer s H E) (defBody (topS 12)) (evSs B.np cf c5.body) := by
  have hu := room_cmp hr
  have sN := s5.nd
  exact (sss_cons (ss_if (SW.st (sw_or (st_not (tt_val (t_isi hbl (t_slot 0)))) (sw_or (tt_cmp hu (t_bi rfl hbl (t_slot 0)) se_int) (sw_or (st_not (tt_val (t_call1 k0 hr (t_sub (t_slot 0) se_int)))) (sw_or1 (st_not (tt_val (t_call1 k1 hr (t_sub (t_slot 0) se_int))))))))) (sss_cons (ss_ret se_bl) sss_nil) sss_nil) (sss_cons (ss_ret (t_cmp hu (t_call k4 hr (tr_val (t_sub (t_slot 0) se_int) (tr_val (t_sub (t_slot 0) se_int) sar_nil))) se_int)) sss_nil))
theorem s6 : FnScope ["numerator", "denominator", "shared"] ["numerator", "denominator"] (defScope (topS 13)) := ⟨rfl, rfl, rfl, by decide +kernel, rfl, by decide +kernel, by decide +kernel⟩
theorem b6 {k : Nat} {cf : Nat → List Sl → CRes} (hbl : Blts mg bltN) (k4 : Callee P w K mg base k "divisor_of" 2 (cf 4)) {f : Addr} (B : Bs) (cdv : Value) (A : Around) (outer : List Env) (s : Shared) (H : Hp) (E : XK) (_ : B.np = c6.np) (hr : Room k (A.deeper (PyProof.Rows.envOfC "fraction_in" (defScope (topS 13)) s.heap.objs.size f cdv))) :
    SSs B (Xf P w K mg base ["numerator", "denominator", "shared"] "fraction_in" (defScope (topS 13)) f cdv A outer s H E) (defBody (topS 13)) (evSs B.np cf c6.body) := by
  have hu := room_cmp hr
  have sN := s6.nd
  exact (sss_cons (ts_set sN (t_call k4 hr (tr_slot 0 (tr_slot 1 sar_nil)))) (sss_cons (ss_ret (se_tup (tl_cons (se_bin (t_slot 0) (t_slot 2)) (tl_cons (se_bin (t_slot 1) (t_slot 2)) sl_nil)))) sss_nil))
theorem s7 : FnScope ["numerator", "denominator"] ["numerator", "denominator"] (defScope (topS 14)) := ⟨rfl, rfl, rfl, by decide +kernel, rfl, by decide +kernel, by decide +kernel⟩
theorem b7 {k : Nat} {cf : Nat → List Sl → CRes} (hbl : Blts mg bltN) (k0 : Callee P w K mg base k "is_integer" 1 (cf 0)) (k2 : Callee P w K mg base k "require_many" 1 (cf 2)) (k6 : Callee P w K mg base k "fraction_in" 2 (cf 6)) {f : Addr} (B : Bs) (cdv : Value) (A : Around) (outer : List Env) (s : Shared) (H : Hp) (E : XK) (_ : B.np = c7.np) (hr : Room k (A.deeper (PyProof.Rows.envOfC "fraction" (defScope (topS 14)) s.heap.objs.size f cdv))) :
    SSs B (Xf P w K mg base ["numerator", "denominator"] "fraction" (defScope (topS 14)) f cdv A outer s H E) (defBody (topS 14)) (evSs B.np cf c7.body) := by
  have hu := room_cmp hr
  have sN := s7.nd
  exact (sss_cons (ss_if (st_not (tt_val (t_call k0 hr (tr_slot 0 sar_nil)))) (sss_cons ss_never sss_nil) sss_nil) (sss_cons (ss_if (st_not (tt_val (t_call k0 hr (tr_slot 1 sar_nil)))) (sss_cons ss_never sss_nil) sss_nil) (sss_cons (ts_expr (t_call k2 hr (tr_slot 1 sar_nil))) (sss_cons (ss_ret (t_call k6 hr (tr_slot 0 (tr_slot 1 sar_nil)))) sss_nil))))
theorem s8 : FnScope ["values", "value"] ["values"] (defScope (topS 15)) := ⟨rfl, rfl, rfl, by decide +kernel, rfl, by decide +kernel, by decide +kernel⟩
theorem b8 {k : Nat} {cf : Nat → List Sl → CRes} (hbl : Blts mg bltN) (k5 : Callee P w K mg base k "is_fraction" 1 (cf 5)) {f : Addr} (B : Bs) (cdv : Value) (A : Around) (outer : List Env) (s : Shared) (H : Hp) (E : XK) (_ : B.np = c8.np) (hr : Room k (A.deeper (PyProof.Rows.envOfC "require_fractions" (defScope (topS 15)) s.heap.objs.size f cdv))) :
    SSs B (Xf P w K mg base ["values", "value"] "require_fractions" (defScope (topS 15)) f cdv A outer s H E) (defBody (topS 15)) (evSs B.np cf c8.body) := by
  have hu := room_cmp hr
  have sN := s8.nd
  exact (sss_cons (ss_if (st_not (tt_val (t_bi rfl hbl (t_lc [("value", 1)] rfl sN (si_val (t_slot 0)) (fun _ _ _ _ _ => (tg_name 1 sN)) (fun _ _ _ _ _ => sts_nil) (fun _ _ _ _ _ => (t_call k5 hr (tr_slot 1 sar_nil))))))) (sss_cons ss_never sss_nil) sss_nil) sss_nil)
theorem s9 : FnScope ["one", "other"] ["one", "other"] (defScope (topS 16)) := ⟨rfl, rfl, rfl, by decide +kernel, rfl, by decide +kernel, by decide +kernel⟩
theorem b9 {k : Nat} {cf : Nat → List Sl → CRes} (hbl : Blts mg bltN) {f : Addr} (B : Bs) (cdv : Value) (A : Around) (outer : List Env) (s : Shared) (H : Hp) (E : XK) (_ : B.np = c9.np) (hr : Room k (A.deeper (PyProof.Rows.envOfC "is_less" (defScope (topS 16)) s.heap.objs.size f cdv))) :
    SSs B (Xf P w K mg base ["one", "other"] "is_less" (defScope (topS 16)) f cdv A outer s H E) (defBody (topS 16)) (evSs B.np cf c9.body) := by
  have hu := room_cmp hr
  have sN := s9.nd
  exact (sss_cons (ss_ret (t_cmp hu (se_bin (t_sub (t_slot 0) se_int) (t_sub (t_slot 1) se_int)) (se_bin (t_sub (t_slot 1) se_int) (t_sub (t_slot 0) se_int)))) sss_nil)
theorem s10 : FnScope ["one", "other"] ["one", "other"] (defScope (topS 17)) := ⟨rfl, rfl, rfl, by decide +kernel, rfl, by decide +kernel, by decide +kernel⟩
theorem b10 {k : Nat} {cf : Nat → List Sl → CRes} (hbl : Blts mg bltN) (k8 : Callee P w K mg base k "require_fractions" 1 (cf 8)) (k9 : Callee P w K mg base k "is_less" 2 (cf 9)) {f : Addr} (B : Bs) (cdv : Value) (A : Around) (outer : List Env) (s : Shared) (H : Hp) (E : XK) (_ : B.np = c10.np) (hr : Room k (A.deeper (PyProof.Rows.envOfC "is_lower" (defScope (topS 17)) s.heap.objs.size f cdv))) :
    SSs B (Xf P w K mg base ["one", "other"] "is_lower" (defScope (topS 17)) f cdv A outer s H E) (defBody (topS 17)) (evSs B.np cf c10.body) := by
  have hu := room_cmp hr
  have sN := s10.nd
  exact (sss_cons (ts_expr (t_call1 k8 hr (se_tup (tl_cons (t_slot 0) (tl_cons (t_slot 1) sl_nil))))) (sss_cons (ss_ret (t_call k9 hr (tr_slot 0 (tr_slot 1 sar_nil)))) sss_nil))
theorem s11 : FnScope ["one", "other"] ["one", "other"] (defScope (topS 18)) := ⟨rfl, rfl, rfl, by decide +kernel, rfl, by decide +kernel, by decide +kernel⟩
theorem b11 {k : Nat} {cf : Nat → List Sl → CRes} (hbl : Blts mg bltN) (k6 : Callee P w K mg base k "fraction_in" 2 (cf 6)) {f : Addr} (B : Bs) (cdv : Value) (A : Around) (outer : List Env) (s : Shared) (H : Hp) (E : XK) (_ : B.np = c11.np) (hr : Room k (A.deeper (PyProof.Rows.envOfC "sum_in" (defScope (topS 18)) s.heap.objs.size f cdv))) :
    SSs B (Xf P w K mg base ["one", "other"] "sum_in" (defScope (topS 18)) f cdv A outer s H E) (defBody (topS 18)) (evSs B.np cf c11.body) := by
  have hu := room_cmp hr
  have sN := s11.nd
  exact (sss_cons (ss_ret (t_call k6 hr (tr_val (se_bin (se_bin (t_sub (t_slot 0) se_int) (t_sub (t_slot 1) se_int)) (se_bin (t_sub (t_slot 1) se_int) (t_sub (t_slot 0) se_int))) (tr_val (se_bin (t_sub (t_slot 0) se_int) (t_sub (t_slot 1) se_int)) sar_nil)))) sss_nil)
theorem s12 : FnScope ["fractions", "found", "value"] ["fractions"] (defScope (topS 19)) := ⟨rfl, rfl, rfl, by decide +kernel, rfl, by decide +kernel, by decide +kernel⟩
theorem b12 {k : Nat} {cf : Nat → List Sl → CRes} (hbl : Blts mg bltN) (k8 : Callee P w K mg base k "require_fractions" 1 (cf 8)) (k11 : Callee P w K mg base k "sum_in" 2 (cf 11)) {f : Addr} (B : Bs) (cdv : Value) (A : Around) (outer : List Env) (s : Shared) (H : Hp) (E : XK) (_ : B.np = c12.np) (hr : Room k (A.deeper (PyProof.Rows.envOfC "added" (defScope (topS 19)) s.heap.objs.size f cdv))) :
    SSs B (Xf P w K mg base ["fractions", "found", "value"] "added" (defScope (topS 19)) f cdv A outer s H E) (defBody (topS 19)) (evSs B.np cf c12.body) := by
  have hu := room_cmp hr
  have sN := s12.nd
  exact (sss_cons (ts_expr (t_call k8 hr (tr_slot 0 sar_nil))) (sss_cons (ts_set sN (se_tup (tl_cons se_int (tl_cons se_int sl_nil)))) (sss_cons (ts_for PassesOwn.never rfl (si_val (t_slot 0)) (tg_name 2 sN) (sss_cons (ts_set sN (t_call k11 hr (tr_slot 1 (tr_slot 2 sar_nil)))) sss_nil)) (sss_cons (ss_ret (t_slot 1)) sss_nil))))
theorem s13 : FnScope ["one", "other"] ["one", "other"] (defScope (topS 20)) := ⟨rfl, rfl, rfl, by decide +kernel, rfl, by decide +kernel, by decide +kernel⟩
theorem b13 {k : Nat} {cf : Nat → List Sl → CRes} (hbl : Blts mg bltN) (k6 : Callee P w K mg base k "fraction_in" 2 (cf 6)) {f : Addr} (B : Bs) (cdv : Value) (A : Around) (outer : List Env) (s : Shared) (H : Hp) (E : XK) (_ : B.np = c13.np) (hr : Room k (A.deeper (PyProof.Rows.envOfC "product_in" (defScope (topS 20)) s.heap.objs.size f cdv))) :
    SSs B (Xf P w K mg base ["one", "other"] "product_in" (defScope (topS 20)) f cdv A outer s H E) (defBody (topS 20)) (evSs B.np cf c13.body) := by
  have hu := room_cmp hr
  have sN := s13.nd
  exact (sss_cons (ss_ret (t_call k6 hr (tr_val (se_bin (t_sub (t_slot 0) se_int) (t_sub (t_slot 1) se_int)) (tr_val (se_bin (t_sub (t_slot 0) se_int) (t_sub (t_slot 1) se_int)) sar_nil)))) sss_nil)
theorem s14 : FnScope ["fractions", "found", "value"] ["fractions"] (defScope (topS 21)) := ⟨rfl, rfl, rfl, by decide +kernel, rfl, by decide +kernel, by decide +kernel⟩
theorem b14 {k : Nat} {cf : Nat → List Sl → CRes} (hbl : Blts mg bltN) (k8 : Callee P w K mg base k "require_fractions" 1 (cf 8)) (k13 : Callee P w K mg base k "product_in" 2 (cf 13)) {f : Addr} (B : Bs) (cdv : Value) (A : Around) (outer : List Env) (s : Shared) (H : Hp) (E : XK) (_ : B.np = c14.np) (hr : Room k (A.deeper (PyProof.Rows.envOfC "multiplied" (defScope (topS 21)) s.heap.objs.size f cdv))) :
    SSs B (Xf P w K mg base ["fractions", "found", "value"] "multiplied" (defScope (topS 21)) f cdv A outer s H E) (defBody (topS 21)) (evSs B.np cf c14.body) := by
  have hu := room_cmp hr
  have sN := s14.nd
  exact (sss_cons (ts_expr (t_call k8 hr (tr_slot 0 sar_nil))) (sss_cons (ts_set sN (se_tup (tl_cons se_int (tl_cons se_int sl_nil)))) (sss_cons (ts_for PassesOwn.never rfl (si_val (t_slot 0)) (tg_name 2 sN) (sss_cons (ts_set sN (t_call k13 hr (tr_slot 1 (tr_slot 2 sar_nil)))) sss_nil)) (sss_cons (ss_ret (t_slot 1)) sss_nil))))
theorem s15 : FnScope ["_law_script", "_law_at", "_law_cell", "_law_great", "_law_left", "_law_mixed"] ["_law_script", "_law_at"] (defScope (topS 23)) := ⟨rfl, rfl, rfl, by decide +kernel, rfl, by decide +kernel, by decide +kernel⟩
theorem b15 {k : Nat} {cf : Nat → List Sl → CRes} (hbl : Blts mg bltN) {f : Addr} (B : Bs) (cdv : Value) (A : Around) (outer : List Env) (s : Shared) (H : Hp) (E : XK) (_ : B.np = c15.np) (hr : Room k (A.deeper (PyProof.Rows.envOfC "_law_dice" (defScope (topS 23)) s.heap.objs.size f cdv))) :
    SSs B (Xf P w K mg base ["_law_script", "_law_at", "_law_cell", "_law_great", "_law_left", "_law_mixed"] "_law_dice" (defScope (topS 23)) f cdv A outer s H E) (defBody (topS 23)) (evSs B.np cf c15.body) := by
  have hu := room_cmp hr
  have sN := s15.nd
  exact (sss_cons (ts_set sN (se_bin (se_bin se_int (t_slot 1)) se_int)) (sss_cons (ss_if (tt_cmp hu (t_slot 1) (t_bi rfl hbl (t_slot 0))) (sss_cons (ts_set sN (t_sub (t_slot 0) (t_slot 1))) sss_nil) sss_nil) (sss_cons (ts_set sN (se_bin (t_bi rfl hbl (t_bi rfl hbl (t_slot 2))) (se_bin (se_bin se_int se_int) se_int))) (sss_cons (ts_set sN (se_bin (t_slot 3) (se_bin se_int se_int))) (sss_cons (ts_set sN (se_bin (se_bin (se_bin (se_bin (se_bin (t_slot 3) se_int) se_int) (se_bin se_int (t_slot 1))) (se_bin se_int (t_bi rfl hbl (t_cmp hu (t_slot 2) se_int)))) se_int)) (sss_cons (ss_ret (se_lst (tl_cons (t_slot 4) (tl_cons (se_bin (t_slot 5) se_int) (tl_cons se_int sl_nil))))) sss_nil))))))
theorem s16 : FnScope ["_law_dice_here", "_law_total", "_law_size", "_law_one", "_law_two", "_law_drawn_here"] ["_law_dice_here", "_law_total"] (defScope (topS 24)) := ⟨rfl, rfl, rfl, by decide +kernel, rfl, by decide +kernel, by decide +kernel⟩
theorem b16 {k : Nat} {cf : Nat → List Sl → CRes} (hbl : Blts mg bltN) {f : Addr} (B : Bs) (cdv : Value) (A : Around) (outer : List Env) (s : Shared) (H : Hp) (E : XK) (_ : B.np = c16.np) (hr : Room k (A.deeper (PyProof.Rows.envOfC "_law_roll" (defScope (topS 24)) s.heap.objs.size f cdv))) :
    SSs B (Xf P w K mg base ["_law_dice_here", "_law_total", "_law_size", "_law_one", "_law_two", "_law_drawn_here"] "_law_roll" (defScope (topS 24)) f cdv A outer s H E) (defBody (topS 24)) (evSs B.np cf c16.body) := by
  have hu := room_cmp hr
  have sN := s16.nd
  exact (sss_cons (ts_set sN (t_bi rfl hbl (t_slot 1))) (sss_cons (ss_if (tt_cmp hu (t_sub (t_slot 0) se_int) se_int) (sss_cons (ts_set sN (se_bin (t_sub (t_slot 0) se_int) (t_slot 2))) (sss_cons (ts_sub (se_bin (t_sub (t_slot 0) se_int) (t_slot 2)) se_int) (sss_cons (ss_ret (t_bi rfl hbl (t_slot 5))) sss_nil))) sss_nil) (sss_cons (ts_sub (se_bin (t_sub (t_slot 0) se_int) se_int) se_int) (sss_cons (ts_set sN (se_bin (se_bin (t_sub (t_slot 0) se_int) (se_bin se_int (t_sub (t_slot 0) se_int))) se_int)) (sss_cons (ts_set sN (se_bin (se_bin (se_bin (se_bin (t_slot 3) (t_slot 3)) se_int) (t_slot 3)) (se_bin se_int (t_sub (t_slot 0) se_int)))) (sss_cons (ts_set sN (se_bin (t_slot 4) se_int)) (sss_cons (ss_ret (t_bi rfl hbl (se_bin (se_bin (t_slot 4) se_int) (t_slot 2)))) sss_nil)))))))
theorem s17 : FnScope ["_law_dice_here", "_law_items"] ["_law_dice_here", "_law_items"] (defScope (topS 25)) := ⟨rfl, rfl, rfl, by decide +kernel, rfl, by decide +kernel, by decide +kernel⟩
theorem b17 {k : Nat} {cf : Nat → List Sl → CRes} (hbl : Blts mg bltN) (k16 : Callee P w K mg base k "_law_roll" 2 (cf 16)) {f : Addr} (B : Bs) (cdv : Value) (A : Around) (outer : List Env) (s : Shared) (H : Hp) (E : XK) (_ : B.np = c17.np) (hr : Room k (A.deeper (PyProof.Rows.envOfC "_law_one_of" (defScope (topS 25)) s.heap.objs.size f cdv))) :
    SSs B (Xf P w K mg base ["_law_dice_here", "_law_items"] "_law_one_of" (defScope (topS 25)) f cdv A outer s H E) (defBody (topS 25)) (evSs B.np cf c17.body) := by
  have hu := room_cmp hr
  have sN := s17.nd
  exact (sss_cons (ss_ret (t_sub (t_slot 1) (t_call k16 hr (tr_slot 0 (tr_val (t_bi rfl hbl (t_slot 1)) sar_nil))))) sss_nil)
theorem s18 : FnScope ["_law_numerator", "_law_denominator", "_law_one", "_law_other"] ["_law_numerator", "_law_denominator"] (defScope (topS 26)) := ⟨rfl, rfl, rfl, by decide +kernel, rfl, by decide +kernel, by decide +kernel⟩
theorem b18 {k : Nat} {cf : Nat → List Sl → CRes} (hbl : Blts mg bltN) {f : Addr} (B : Bs) (cdv : Value) (A : Around) (outer : List Env) (s : Shared) (H : Hp) (E : XK) (_ : B.np = c18.np) (hr : Room k (A.deeper (PyProof.Rows.envOfC "_law_lowest" (defScope (topS 26)) s.heap.objs.size f cdv))) :
    SSs B (Xf P w K mg base ["_law_numerator", "_law_denominator", "_law_one", "_law_other"] "_law_lowest" (defScope (topS 26)) f cdv A outer s H E) (defBody (topS 26)) (evSs B.np cf c18.body) := by
  have hu := room_cmp hr
  have sN := s18.nd
  exact (sss_cons (ts_par rfl sN (t_bi rfl hbl (t_slot 0)) (t_slot 1)) (sss_cons (ss_while PassesOwn.never (tt_cmp hu (t_slot 3) se_int) (sss_cons (ts_par rfl sN (t_slot 3) (se_bin (t_bi rfl hbl (t_slot 2)) (t_slot 3))) sss_nil)) (sss_cons (ss_ret (se_tup (tl_cons (se_bin (t_slot 0) (t_slot 2)) (tl_cons (se_bin (t_slot 1) (t_slot 2)) sl_nil)))) sss_nil)))
theorem s19 : FnScope ["_law_one", "_law_other"] ["_law_one", "_law_other"] (defScope (topS 27)) := ⟨rfl, rfl, rfl, by decide +kernel, rfl, by decide +kernel, by decide +kernel⟩
theorem b19 {k : Nat} {cf : Nat → List Sl → CRes} (hbl : Blts mg bltN) {f : Addr} (B : Bs) (cdv : Value) (A : Around) (outer : List Env) (s : Shared) (H : Hp) (E : XK) (_ : B.np = c19.np) (hr : Room k (A.deeper (PyProof.Rows.envOfC "_law_less" (defScope (topS 27)) s.heap.objs.size f cdv))) :
    SSs B (Xf P w K mg base ["_law_one", "_law_other"] "_law_less" (defScope (topS 27)) f cdv A outer s H E) (defBody (topS 27)) (evSs B.np cf c19.body) := by
  have hu := room_cmp hr
  have sN := s19.nd
  exact (sss_cons (ss_ret (t_cmp hu (se_bin (t_sub (t_slot 0) se_int) (t_sub (t_slot 1) se_int)) (se_bin (t_sub (t_slot 1) se_int) (t_sub (t_slot 0) se_int)))) sss_nil)
theorem s20 : FnScope ["_law_one", "_law_some", "_law_top", "_law_low", "_law_by"] ["_law_one"] (defScope (topS 28)) := ⟨rfl, rfl, rfl, by decide +kernel, rfl, by decide +kernel, by decide +kernel⟩
theorem b20 {k : Nat} {cf : Nat → List Sl → CRes} (hbl : Blts mg bltN) {f : Addr} (B : Bs) (cdv : Value) (A : Around) (outer : List Env) (s : Shared) (H : Hp) (E : XK) (_ : B.np = c20.np) (hr : Room k (A.deeper (PyProof.Rows.envOfC "_law_is_lowest" (defScope (topS 28)) s.heap.objs.size f cdv))) :
    SSs B (Xf P w K mg base ["_law_one", "_law_some", "_law_top", "_law_low", "_law_by"] "_law_is_lowest" (defScope (topS 28)) f cdv A outer s H E) (defBody (topS 28)) (evSs B.np cf c20.body) := by
  have hu := room_cmp hr
  have sN := s20.nd
  exact (sss_cons (ts_parT rfl sN (t_bi rfl hbl (t_sub (t_slot 0) se_int)) (t_bi rfl hbl (t_sub (t_slot 0) se_int))) (sss_cons (ts_set sN (t_lrng2 rfl hbl se_int (se_bin (se_bin (t_bi rfl hbl (t_slot 2)) (t_slot 3)) se_int))) (sss_cons (ss_ret (se_and (t_cmp hu (t_slot 3) se_int) (se_one (t_cmp hu (t_lc [("_law_by", 4)] rfl sN (si_val (t_slot 1)) (fun _ _ _ _ _ => (tg_name 4 sN)) (fun _ _ _ _ _ => (sts_one (SW.st (sw_and (tt_cmp hu (se_bin (t_slot 2) (t_slot 4)) se_int) (sw_and1 (tt_cmp hu (se_bin (t_slot 3) (t_slot 4)) se_int)))))) (fun _ _ _ _ _ => (t_slot 4))) (se_lst sl_nil))))) sss_nil)))
theorem s21 : FnScope ["_law_dice_here", "_law_great"] ["_law_dice_here"] (defScope (topS 29)) := ⟨rfl, rfl, rfl, by decide +kernel, rfl, by decide +kernel, by decide +kernel⟩
theorem b21 {k : Nat} {cf : Nat → List Sl → CRes} (hbl : Blts mg bltN) (k16 : Callee P w K mg base k "_law_roll" 2 (cf 16)) (k17 : Callee P w K mg base k "_law_one_of" 2 (cf 17)) {f : Addr} (B : Bs) (cdv : Value) (A : Around) (outer : List Env) (s : Shared) (H : Hp) (E : XK) (_ : B.np = c21.np) (hr : Room k (A.deeper (PyProof.Rows.envOfC "_law_drawn" (defScope (topS 29)) s.heap.objs.size f cdv))) :
    SSs B (Xf P w K mg base ["_law_dice_here", "_law_great"] "_law_drawn" (defScope (topS 29)) f cdv A outer s H E) (defBody (topS 29)) (evSs B.np cf c21.body) := by
  have hu := room_cmp hr
  have sN := s21.nd
  exact (sss_cons (ts_set sN (t_call k17 hr (tr_slot 0 (tr_val (se_lst (tl_cons se_int (tl_cons se_int (tl_cons se_int sl_nil)))) sar_nil)))) (sss_cons (ss_ret (se_tup (tl_cons (se_bin (t_call k16 hr (tr_slot 0 (tr_val (se_bin se_int (t_slot 1)) sar_nil))) (t_slot 1)) (tl_cons (se_bin se_int (t_call k16 hr (tr_slot 0 (tr_slot 1 sar_nil)))) sl_nil)))) sss_nil))
theorem s22 : FnScope ["_law_rows", "_law_one", "_law_told", "_law_total", "_law_product"] ["_law_rows"] (defScope (topS 30)) := ⟨rfl, rfl, rfl, by decide +kernel, rfl, by decide +kernel, by decide +kernel⟩
theorem b22 {k : Nat} {cf : Nat → List Sl → CRes} (hbl : Blts mg bltN) (k12 : CalleeS P w K mg base k "added" (cf 12)) (k14 : CalleeS P w K mg base k "multiplied" (cf 14)) (k18 : Callee P w K mg base k "_law_lowest" 2 (cf 18)) {f : Addr} (B : Bs) (cdv : Value) (A : Around) (outer : List Env) (s : Shared) (H : Hp) (E : XK) (_ : B.np = c22.np) (hr : Room k (A.deeper (PyProof.Rows.envOfC "_law_sums_right" (defScope (topS 30)) s.heap.objs.size f cdv))) :
    SSs B (Xf P w K mg base ["_law_rows", "_law_one", "_law_told", "_law_total", "_law_product"] "_law_sums_right" (defScope (topS 30)) f cdv A outer s H E) (defBody (topS 30)) (evSs B.np cf c22.body) := by
  have hu := room_cmp hr
  have sN := s22.nd
  exact (sss_cons (ts_parT rfl sN (se_tup (tl_cons se_int (tl_cons se_int sl_nil))) (se_tup (tl_cons se_int (tl_cons se_int sl_nil)))) (sss_cons (ts_for PassesOwn.never rfl (si_val (t_slot 0)) (tg_name 1 sN) (sss_cons (ts_set sN (se_tup (tl_cons (se_bin (se_bin (t_sub (t_slot 3) se_int) (t_sub (t_slot 1) se_int)) (se_bin (t_sub (t_slot 1) se_int) (t_sub (t_slot 3) se_int))) (tl_cons (se_bin (t_sub (t_slot 3) se_int) (t_sub (t_slot 1) se_int)) sl_nil)))) (sss_cons (ts_set sN (se_tup (tl_cons (se_bin (t_sub (t_slot 4) se_int) (t_sub (t_slot 1) se_int)) (tl_cons (se_bin (t_sub (t_slot 4) se_int) (t_sub (t_slot 1) se_int)) sl_nil)))) sss_nil))) (sss_cons (ts_set sN (se_lst (tl_cons (t_callS0 k12 hr) (tl_cons (t_callS0 k14 hr) sl_nil)))) (sss_cons (ss_if (tt_cmp hu (t_bi rfl hbl (t_slot 0)) se_int) (sss_cons (ts_set sN (se_lst (tl_cons (t_callS k12 hr (tl_cons (t_sub (t_slot 0) se_int) sl_nil)) (tl_cons (t_callS k14 hr (tl_cons (t_sub (t_slot 0) se_int) sl_nil)) sl_nil)))) sss_nil) sss_nil) (sss_cons (ss_if (tt_cmp hu (t_bi rfl hbl (t_slot 0)) se_int) (sss_cons (ts_set sN (se_lst (tl_cons (t_callS k12 hr (tl_cons (t_sub (t_slot 0) se_int) (tl_cons (t_sub (t_slot 0) se_int) sl_nil))) (tl_cons (t_callS k14 hr (tl_cons (t_sub (t_slot 0) se_int) (tl_cons (t_sub (t_slot 0) se_int) sl_nil))) sl_nil)))) sss_nil) sss_nil) (sss_cons (ss_if (tt_cmp hu (t_bi rfl hbl (t_slot 0)) se_int) (sss_cons (ts_set sN (se_lst (tl_cons (t_callS k12 hr (tl_cons (t_sub (t_slot 0) se_int) (tl_cons (t_sub (t_slot 0) se_int) (tl_cons (t_sub (t_slot 0) se_int) sl_nil)))) (tl_cons (t_callS k14 hr (tl_cons (t_sub (t_slot 0) se_int) (tl_cons (t_sub (t_slot 0) se_int) (tl_cons (t_sub (t_slot 0) se_int) sl_nil)))) sl_nil)))) sss_nil) sss_nil) (sss_cons (ss_ret (t_cmp hu (t_slot 2) (se_lst (tl_cons (t_call k18 hr (tr_val (t_sub (t_slot 3) se_int) (tr_val (t_sub (t_slot 3) se_int) sar_nil))) (tl_cons (t_call k18 hr (tr_val (t_sub (t_slot 4) se_int) (tr_val (t_sub (t_slot 4) se_int) sar_nil))) sl_nil))))) sss_nil)))))))
theorem s23 : FnScope ["_law_dice_here", "_law_pairs", "_law_rows", "_law_near", "_law_due", "_law_one", "_law_other", "_law_by", "_law_far", "_law_turn", "_law_many"] ["_law_dice_here"] (defScope (topS 31)) := ⟨rfl, rfl, rfl, by decide +kernel, rfl, by decide +kernel, by decide +kernel⟩
theorem b23 {k : Nat} {cf : Nat → List Sl → CRes} (hbl : Blts mg bltN) (k5 : Callee P w K mg base k "is_fraction" 1 (cf 5)) (k7 : Callee P w K mg base k "fraction" 2 (cf 7)) (k10 : Callee P w K mg base k "is_lower" 2 (cf 10)) (k16 : Callee P w K mg base k "_law_roll" 2 (cf 16)) (k18 : Callee P w K mg base k "_law_lowest" 2 (cf 18)) (k19 : Callee P w K mg base k "_law_less" 2 (cf 19)) (k20 : Callee P w K mg base k "_law_is_lowest" 1 (cf 20)) (k21 : Callee P w K mg base k "_law_drawn" 1 (cf 21)) (k22 : Callee P w K mg base k "_law_sums_right" 1 (cf 22)) {f : Addr} (B : Bs) (cdv : Value) (A : Around) (outer : List Env) (s : Shared) (H : Hp) (E : XK) (_ : B.np = c23.np) (hr : Room k (A.deeper (PyProof.Rows.envOfC "_law_right" (defScope (topS 31)) s.heap.objs.size f cdv))) :
    SSs B (Xf P w K mg base ["_law_dice_here", "_law_pairs", "_law_rows", "_law_near", "_law_due", "_law_one", "_law_other", "_law_by", "_law_far", "_law_turn", "_law_many"] "_law_right" (defScope (topS 31)) f cdv A outer s H E) (defBody (topS 31)) (evSs B.np cf c23.body) := by
  have hu := room_cmp hr
  have sN := s23.nd
  exact (sss_cons (ts_setLc [("_law_turn", 9)] rfl sN (ti_rng1 hbl se_int) (fun _ _ _ _ _ => (tg_name 9 sN)) (fun _ _ _ _ _ => sts_nil) (fun _ _ _ _ _ => (t_call k21 hr (tr_slot 0 sar_nil)))) (sss_cons (ts_set sN (t_lc [("_law_one", 5), ("_law_other", 6)] rfl sN (si_val (t_slot 1)) (fun _ _ _ _ _ => (tg_tup rfl (tgs_cons (tg_name 5 sN) (tgs_cons (tg_name 6 sN) sgs_nil)))) (fun _ _ _ _ _ => sts_nil) (fun _ _ _ _ _ => (t_call k7 hr (tr_slot 5 (tr_slot 6 sar_nil)))))) (sss_cons (ss_if (tt_cmp hu (t_slot 2) (t_lc [("_law_one", 5), ("_law_other", 6)] rfl sN (si_val (t_slot 1)) (fun _ _ _ _ _ => (tg_tup rfl (tgs_cons (tg_name 5 sN) (tgs_cons (tg_name 6 sN) sgs_nil)))) (fun _ _ _ _ _ => sts_nil) (fun _ _ _ _ _ => (t_call k18 hr (tr_slot 5 (tr_slot 6 sar_nil)))))) (sss_cons (ss_ret se_bl) sss_nil) sss_nil) (sss_cons (ss_if (tt_cmp hu (t_lc [("_law_one", 5)] rfl sN (si_val (t_slot 2)) (fun _ _ _ _ _ => (tg_name 5 sN)) (fun _ _ _ _ _ => (sts_one (st_not (tt_val (t_call k20 hr (tr_slot 5 sar_nil)))))) (fun _ _ _ _ _ => (t_slot 5))) (se_lst sl_nil)) (sss_cons (ss_ret se_bl) sss_nil) sss_nil) (sss_cons (ts_for PassesOwn.never rfl (si_val (se_lst (tl_cons (se_tup (tl_cons (t_sub (t_slot 2) se_int) (tl_cons (t_sub (t_slot 2) se_int) sl_nil))) (tl_cons (se_tup (tl_cons (t_sub (t_slot 2) se_int) (tl_cons (t_sub (t_slot 2) se_int) sl_nil))) (tl_cons (se_tup (tl_cons (t_sub (t_slot 2) se_int) (tl_cons (t_sub (t_slot 2) se_int) sl_nil))) sl_nil))))) (tg_tup rfl (tgs_cons (tg_name 5 sN) (tgs_cons (tg_name 6 sN) sgs_nil))) (sss_cons (ss_if (SW.st (sw_or (tt_cmp hu (t_call k10 hr (tr_slot 5 (tr_slot 6 sar_nil))) (t_call k19 hr (tr_slot 5 (tr_slot 6 sar_nil)))) (sw_or1 (SW.st (sw_and (tt_val (t_call k10 hr (tr_slot 5 (tr_slot 6 sar_nil)))) (sw_and1 (tt_val (t_call k10 hr (tr_slot 6 (tr_slot 5 sar_nil)))))))))) (sss_cons (ss_ret se_bl) sss_nil) sss_nil) sss_nil)) (sss_cons (ss_if (tt_cmp hu (t_lc [("_law_many", 10)] rfl sN (ti_rng1 hbl se_int) (fun _ _ _ _ _ => (tg_name 10 sN)) (fun _ _ _ _ _ => (sts_one (st_not (tt_val (t_call1 k22 hr (se_slc (t_slot 2) so_none (t_some (t_slot 10)))))))) (fun _ _ _ _ _ => (t_slot 10))) (se_lst sl_nil)) (sss_cons (ss_ret se_bl) sss_nil) sss_nil) (sss_cons (ts_par rfl sN (se_bin se_int (t_call k16 hr (tr_slot 0 (tr_val se_int sar_nil)))) (se_bin (se_bin se_int se_int) (t_call k16 hr (tr_slot 0 (tr_val se_int sar_nil))))) (sss_cons (ss_if (SW.st (sw_or (tt_cmp hu (t_call k7 hr (tr_val (se_bin (t_sub (t_sub (t_slot 1) se_int) se_int) (t_slot 7)) (tr_val (se_bin (t_sub (t_sub (t_slot 1) se_int) se_int) (t_slot 7)) sar_nil))) (t_sub (t_slot 2) se_int)) (sw_or1 (tt_cmp hu (t_call k7 hr (tr_slot 8 (tr_slot 8 sar_nil))) (se_tup (tl_cons se_int (tl_cons se_int sl_nil))))))) (sss_cons (ss_ret se_bl) sss_nil) sss_nil) (sss_cons (ts_set sN (se_lst (tl_cons (t_sub (t_slot 2) se_int) (tl_cons (t_sub (t_slot 1) se_int) (tl_cons (se_tup (tl_cons (t_sub (t_sub (t_slot 2) se_int) se_int) (tl_cons se_int sl_nil))) (tl_cons (se_tup (tl_cons (t_sub (t_sub (t_slot 2) se_int) se_int) (tl_cons (se_neg se_int) sl_nil))) (tl_cons (se_bin (t_sub (t_slot 2) se_int) (se_tup (tl_cons se_int sl_nil))) (tl_cons (t_bi rfl hbl (t_sub (t_slot 2) se_int)) (tl_cons (se_tup (tl_cons se_bl (tl_cons se_int sl_nil))) sl_nil))))))))) (sss_cons (ts_set sN (se_bin (t_slot 3) (se_lst (tl_cons (se_tup (tl_cons se_int (tl_cons se_bl sl_nil))) (tl_cons se_non (tl_cons se_int sl_nil)))))) (sss_cons (ts_set sN (se_bin (se_lst (tl_cons se_bl (tl_cons (t_call1 k20 hr (t_sub (t_slot 1) se_int)) sl_nil))) (se_bin (se_lst (tl_cons se_bl sl_nil)) se_int))) (sss_cons (ss_ret (se_and (t_cmp hu (t_lc [("_law_one", 5)] rfl sN (si_val (t_slot 3)) (fun _ _ _ _ _ => (tg_name 5 sN)) (fun _ _ _ _ _ => sts_nil) (fun _ _ _ _ _ => (t_call k5 hr (tr_slot 5 sar_nil)))) (t_slot 4)) (se_one (t_cmp hu (t_call1 k5 hr (se_tup (tl_cons se_int (tl_cons se_int sl_nil)))) se_bl)))) sss_nil))))))))))))
theorem s24 : FnScope ["_law_dice_here", "_law_word", "_law_near", "_law_turn", "_law_one"] ["_law_dice_here"] (defScope (topS 32)) := ⟨rfl, rfl, rfl, by decide +kernel, rfl, by decide +kernel, by decide +kernel⟩
theorem b24 {k : Nat} {cf : Nat → List Sl → CRes} (hbl : Blts mg bltN) (k3 : Callee P w K mg base k "is_place" 1 (cf 3)) (k16 : Callee P w K mg base k "_law_roll" 2 (cf 16)) (k17 : Callee P w K mg base k "_law_one_of" 2 (cf 17)) {f : Addr} (B : Bs) (cdv : Value) (A : Around) (outer : List Env) (s : Shared) (H : Hp) (E : XK) (_ : B.np = c24.np) (hr : Room k (A.deeper (PyProof.Rows.envOfC "_law_places_right" (defScope (topS 32)) s.heap.objs.size f cdv))) :
    SSs B (Xf P w K mg base ["_law_dice_here", "_law_word", "_law_near", "_law_turn", "_law_one"] "_law_places_right" (defScope (topS 32)) f cdv A outer s H E) (defBody (topS 32)) (evSs B.np cf c24.body) := by
  have hu := room_cmp hr
  have sN := s24.nd
  exact (sss_cons (ts_set sN (t_join se_str (t_lc [("_law_turn", 3)] rfl sN (ti_rng1 hbl (se_bin se_int (t_call k16 hr (tr_slot 0 (tr_val se_int sar_nil))))) (fun _ _ _ _ _ => (tg_name 3 sN)) (fun _ _ _ _ _ => sts_nil) (fun _ _ _ _ _ => (t_call k17 hr (tr_slot 0 (tr_val (t_bi rfl hbl se_str) sar_nil))))))) (sss_cons (ts_set sN (se_lst (tl_cons (t_slot 1) (tl_cons (se_bin (t_slot 1) se_str) (tl_cons (se_bin (t_slot 1) se_str) (tl_cons se_str (tl_cons (se_bin (t_slot 1) se_str) (tl_cons (se_tup (tl_cons (t_slot 1) sl_nil)) (tl_cons se_non (tl_cons se_int (tl_cons se_bl (tl_cons (se_lst (tl_cons (t_slot 1) sl_nil)) (tl_cons se_dict0 (tl_cons (se_bin (t_slot 1) se_str) sl_nil)))))))))))))) (sss_cons (ss_ret (t_cmp hu (t_lc [("_law_one", 4)] rfl sN (si_val (t_slot 2)) (fun _ _ _ _ _ => (tg_name 4 sN)) (fun _ _ _ _ _ => sts_nil) (fun _ _ _ _ _ => (t_call k3 hr (tr_slot 4 sar_nil)))) (se_bin (se_lst (tl_cons se_bl sl_nil)) (se_bin (se_lst (tl_cons se_bl sl_nil)) se_int)))) sss_nil)))
theorem s25 : FnScope ["_law_script", "_law_spot", "_law_told", "_law_dice_here"] ["_law_script"] (defScope (topS 33)) := ⟨rfl, rfl, rfl, by decide +kernel, rfl, by decide +kernel, by decide +kernel⟩
theorem b25 {k : Nat} {cf : Nat → List Sl → CRes} (hbl : Blts mg bltN) (k7 : Callee P w K mg base k "fraction" 2 (cf 7)) (k12 : CalleeS P w K mg base k "added" (cf 12)) (k14 : CalleeS P w K mg base k "multiplied" (cf 14)) (k15 : Callee P w K mg base k "_law_dice" 2 (cf 15)) (k23 : Callee P w K mg base k "_law_right" 1 (cf 23)) (k24 : Callee P w K mg base k "_law_places_right" 1 (cf 24)) {t_MAX_LETTERS : Tok} (hg_MAX_LETTERS : mg "MAX_LETTERS" = some (.int 8 t_MAX_LETTERS)) {f : Addr} (B : Bs) (cdv : Value) (A : Around) (outer : List Env) (s : Shared) (H : Hp) (E : XK) (_ : B.np = c25.np) (hr : Room k (A.deeper (PyProof.Rows.envOfC "law" (defScope (topS 33)) s.heap.objs.size f cdv))) :
    SSs B (Xf P w K mg base ["_law_script", "_law_spot", "_law_told", "_law_dice_here"] "law" (defScope (topS 33)) f cdv A outer s H E) (defBody (topS 33)) (evSs B.np cf c25.body) := by
  have hu := room_cmp hr
  have sN := s25.nd
  exact (sss_cons (ts_for PassesOwn.never rfl (ti_rng1 hbl (t_bi2 rfl hbl se_int (t_bi2 rfl hbl se_int (t_bi rfl hbl (t_slot 0))))) (tg_name 1 sN) (sss_cons (ts_set sN (t_call k15 hr (tr_slot 0 (tr_slot 1 sar_nil)))) (sss_cons (ss_if (SW.st (sw_or (st_not (tt_val (t_call k23 hr (tr_slot 3 sar_nil)))) (sw_or1 (st_not (tt_val (t_call k24 hr (tr_slot 3 sar_nil))))))) (sss_cons (ss_ret se_bl) sss_nil) sss_nil) sss_nil))) (sss_cons (ts_set sN (se_lst (tl_cons (t_call k7 hr (tr_val se_int (tr_val se_int sar_nil))) (tl_cons (t_call k7 hr (tr_val (se_neg se_int) (tr_val se_int sar_nil))) (tl_cons (t_call k7 hr (tr_val se_int (tr_val se_int sar_nil))) (tl_cons (t_callS k12 hr (tl_cons (se_tup (tl_cons se_int (tl_cons se_int sl_nil))) (tl_cons (se_tup (tl_cons se_int (tl_cons se_int sl_nil))) sl_nil))) (tl_cons (t_callS k14 hr (tl_cons (se_tup (tl_cons se_int (tl_cons se_int sl_nil))) (tl_cons (se_tup (tl_cons se_int (tl_cons se_int sl_nil))) sl_nil))) sl_nil))))))) (sss_cons (ss_ret (se_and (t_cmp hu (t_slot 2) (se_lst (tl_cons (se_tup (tl_cons se_int (tl_cons se_int sl_nil))) (tl_cons (se_tup (tl_cons (se_neg se_int) (tl_cons se_int sl_nil))) (tl_cons (se_tup (tl_cons se_int (tl_cons se_int sl_nil))) (tl_cons (se_tup (tl_cons se_int (tl_cons se_int sl_nil))) (tl_cons (se_tup (tl_cons se_int (tl_cons se_int sl_nil))) sl_nil))))))) (se_one (t_cmp hu (t_glob (v := .int 8) hg_MAX_LETTERS ⟨_, rfl⟩ (fun _ => rfl)) se_int)))) sss_nil)))
end
end K01

/-! K01p: what the law's code reckons. -/
namespace K01
open PySem hiding run
open L2 PV
abbrev I (i : Int) : Sl := .fz (.int i)
abbrev Pr (a b : Int) : D := .tup [.int a, .int b]
theorem mulOk_l {i j : Int} (h : i.natAbs < 2 ^ 64) : mulOk i j = true := by unfold mulOk; rw [decide_eq_true h]; rfl
theorem mulOk_r {i j : Int} (h : j.natAbs < 2 ^ 64) : mulOk i j = true := by unfold mulOk; rw [decide_eq_true h, Bool.or_true]
theorem divOk_of {j : Int} (h : 0 < j) (h2 : j.natAbs < 2 ^ 9000) : divOk j = true := by
  unfold divOk
  rw [decide_eq_true h, Bool.true_and]
  exact decide_eq_true ((Nat.log2_lt (by omega)).mpr h2)
theorem small {j : Int} (h : j.natAbs < 2 ^ 64) : j.natAbs < 2 ^ 9000 := Nat.lt_of_lt_of_le h (Nat.pow_le_pow_right (by decide) (by decide))
/-! ### greatest common divisors -/
abbrev tc4 : C := .tVal (.cmp .Gt (.slot 2) (.con (.int 0)))
abbrev bc4 : C := .cons (.sPar 2 3 (.bin .Mod (.slot 3) (.slot 2)) (.slot 2)) .nil
theorem gcd_loop (cf : Nat → List Sl → CRes) (a b : Int) : ∀ (m l r : Nat), l < m → whileS 2 cf tc4 bc4 m [I a, I b, I l, I r] = .next [I a, I b, I 0, I (Nat.gcd l r)]
  | 0, l, r, h => by omega
  | m + 1, 0, r, h => by
    unfold whileS whlL
    simp
  | m + 1, l + 1, r, h => by
    have hm : r % (l + 1) < l + 1 := Nat.mod_lt r (Nat.succ_pos l)
    have ih := gcd_loop cf a b m (r % (l + 1)) (l + 1) (by omega)
    have hp : (0 : Int) < ((l + 1 : Nat) : Int) := by omega
    have e : ((r : Int) % ((l + 1 : Nat) : Int)) = ((r % (l + 1) : Nat) : Int) := by omega
    unfold whileS at ih ⊢
    unfold whlL
    simp only [evT_val, evE_cmp, evE_slot, evE_con, List.getElem?_cons_succ, List.getElem?_cons_zero, slotR_fz, R.bind_ok, der_fz, ob2_some', cmp_gt, ofO_some, blR_eq, tvR_bl, decide_eq_true hp]
    rw [Nat.gcd_rec (l + 1) r]
    simp [hp]
    rw [← e] at ih
    exact ih
theorem divisor_ev (n : Nat) (a : Int) (b : Nat) (ha : a.natAbs < whlMax) : run code (n + 1) 4 [I a, I b] = .ok (.fz (.int (Nat.gcd a.natAbs b))) [I a, I b] := by
  have h := gcd_loop (run code n) a b whlMax a.natAbs b ha
  have e : (if a < 0 then -a else a) = (a.natAbs : Int) := by omega
  rw [r4, runF_eq rfl]
  simp [c4, e, h]
abbrev gc (a : Int) (b : Nat) : Int := (Nat.gcd a.natAbs b : Nat)
theorem gc_pos (a : Int) {b : Nat} (hb : 0 < b) : 0 < gc a b := by
  have := Nat.gcd_pos_of_pos_right a.natAbs hb
  show (0 : Int) < (Nat.gcd a.natAbs b : Nat)
  omega
theorem gc_le (a : Int) {b : Nat} (hb : 0 < b) : gc a b ≤ b := by
  have := Nat.gcd_le_right a.natAbs hb
  show ((Nat.gcd a.natAbs b : Nat) : Int) ≤ b
  omega
theorem gc_div {a : Int} {b : Nat} (hb : 0 < b) (h : b < 2 ^ 64) : divOk (gc a b) = true := by
  have h1 := gc_pos a hb
  have h2 := gc_le a hb
  exact divOk_of h1 (small (by omega))
theorem fractionIn_ev (n : Nat) (a : Int) (b : Nat) (ha : a.natAbs < whlMax) (hb : 0 < b) (hb2 : b < 2 ^ 64) : run code (n + 2) 6 [I a, I b] = .ok (.fz (Pr (a / gc a b) ((b : Int) / gc a b))) [I a, I b] := by
  rw [r6, runF_eq rfl]
  have e := divisor_ev n a b ha
  have d := gc_div (a := a) hb hb2
  simp [c6, e, d, tupR, maxLen]
/-! ### integers, numbers, fractions -/
theorem isInteger_ev (n : Nat) (d : D) (h : ∃ b, isiD .int d = some b) : ∃ b, run code (n + 1) 0 [.fz d] = .ok (.fz (.bl b)) [.fz d] ∧ (∀ i, d = .int i → b = true) ∧ ((∀ i, d ≠ .int i) → b = false) := by
  rw [r0, runF_eq rfl]
  cases d with
  | obj _ _ => obtain ⟨_, h⟩ := h; cases h
  | scr _ => obtain ⟨_, h⟩ := h; cases h
  | int i => exact ⟨true, by simp [c0, isiD], fun _ _ => rfl, fun z => absurd rfl (z i)⟩
  | _ => exact ⟨false, by simp [c0, isiD], fun _ z => (by cases z), fun _ => rfl⟩
theorem isInteger_int (n : Nat) (i : Int) : run code (n + 1) 0 [I i] = .ok (.fz (.bl true)) [I i] := by
  rw [r0, runF_eq rfl]
  simp [c0, isiD]
theorem isInteger_bl (n : Nat) (i : Bool) : run code (n + 1) 0 [.fz (.bl i)] = .ok (.fz (.bl false)) [.fz (.bl i)] := by
  rw [r0, runF_eq rfl]
  simp [c0, isiD]
theorem isNumber_int (n : Nat) (i : Int) : run code (n + 2) 1 [I i] = .ok (.fz (.bl (decide (1 ≤ i)))) [I i] := by
  rw [r1, runF_eq rfl]
  simp [c1, isInteger_int]
theorem isNumber_bl (n : Nat) (i : Bool) : run code (n + 2) 1 [.fz (.bl i)] = .ok (.fz (.bl false)) [.fz (.bl i)] := by
  rw [r1, runF_eq rfl]
  simp [c1, isInteger_bl]
theorem isFraction_pair (n : Nat) (a b : Int) (ha : a.natAbs < whlMax) : run code (n + 3) 5 [.fz (Pr a b)] = .ok (.fz (.bl (decide (1 ≤ b) && decide (Nat.gcd a.natAbs b.natAbs = 1)))) [.fz (Pr a b)] := by
  rw [r5, runF_eq rfl]
  by_cases hb : 1 ≤ b
  · obtain ⟨k, rfl⟩ : ∃ k : Nat, b = k := ⟨b.toNat, by omega⟩
    have e := divisor_ev (n + 1) a k ha
    have z : ((2 : Int) = 2) := rfl
    simp [c5, isiD, eqD_int, isInteger_int, isNumber_int, hb, e]
    omega
  · simp [c5, isiD, eqD_int, isInteger_int, isNumber_int, hb]
theorem fraction_ev (n : Nat) (a : Int) (b : Nat) (ha : a.natAbs < whlMax) (hb : 0 < b) (hb2 : b < 2 ^ 64) : run code (n + 4) 7 [I a, I b] = .ok (.fz (Pr (a / gc a b) ((b : Int) / gc a b))) [I a, I b] := by
  rw [r7, runF_eq rfl]
  have e := fractionIn_ev (n + 1) a b ha hb hb2
  have hb' : 1 ≤ (b : Int) := by omega
  have h1 : run code (n + 3) 2 [I b] = .ok (.fz .non) [I b] := by
    rw [r2, runF_eq rfl]
    simp [c2, isNumber_int, hb']
  simp [c7, isInteger_int, e, h1]
/-! ### the law's own lowest terms -/
abbrev tc18 : C := .tVal (.cmp .Gt (.slot 3) (.con (.int 0)))
abbrev bc18 : C := .cons (.sPar 2 3 (.slot 3) (.bin .Mod (.bi .int (.slot 2)) (.slot 3))) .nil
theorem gcd_loop2 (cf : Nat → List Sl → CRes) (a b : Int) : ∀ (m l r : Nat), r < m → whileS 2 cf tc18 bc18 m [I a, I b, I l, I r] = .next [I a, I b, I (Nat.gcd l r), I 0]
  | 0, l, r, h => by omega
  | m + 1, l, 0, h => by
    unfold whileS whlL
    simp
  | m + 1, l, r + 1, h => by
    have hm : l % (r + 1) < r + 1 := Nat.mod_lt l (Nat.succ_pos r)
    have ih := gcd_loop2 cf a b m (r + 1) (l % (r + 1)) (by omega)
    have hp : (0 : Int) < ((r + 1 : Nat) : Int) := by omega
    have e : ((l : Int) % ((r + 1 : Nat) : Int)) = ((l % (r + 1) : Nat) : Int) := by omega
    unfold whileS at ih ⊢
    unfold whlL
    simp only [evT_val, evE_cmp, evE_slot, evE_con, List.getElem?_cons_succ, List.getElem?_cons_zero, slotR_fz, R.bind_ok, der_fz, ob2_some', cmp_gt, ofO_some, blR_eq, tvR_bl, decide_eq_true hp]
    rw [Nat.gcd_comm l (r + 1), Nat.gcd_rec (r + 1) l, Nat.gcd_comm (l % (r + 1)) (r + 1)]
    simp [hp]
    rw [← e] at ih
    exact ih
theorem lowest_ev (n : Nat) (a : Int) (b : Nat) (hb : 0 < b) (hb2 : b < 2 ^ 64) : run code (n + 1) 18 [I a, I b] = .ok (.fz (Pr (a / gc a b) ((b : Int) / gc a b))) [I a, I b] := by
  have h := gcd_loop2 (run code n) a b whlMax a.natAbs b (Nat.lt_of_lt_of_le hb2 (by decide))
  have e : (if a < 0 then -a else a) = (a.natAbs : Int) := by omega
  have d := gc_div (a := a) hb hb2
  rw [r18, runF_eq rfl]
  simp [c18, e, h, d, tupR, maxLen]
theorem less_ev (n : Nat) (a b c d : Int) (h1 : mulOk a d = true) (h2 : mulOk c b = true) : run code (n + 1) 19 [.fz (Pr a b), .fz (Pr c d)] = .ok (.fz (.bl (decide (a * d < c * b)))) [.fz (Pr a b), .fz (Pr c d)] := by
  rw [r19, runF_eq rfl]
  simp [c19, h1, h2]
theorem isLess_ev (n : Nat) (a b c d : Int) (h1 : mulOk a d = true) (h2 : mulOk c b = true) : run code (n + 1) 9 [.fz (Pr a b), .fz (Pr c d)] = .ok (.fz (.bl (decide (a * d < c * b)))) [.fz (Pr a b), .fz (Pr c d)] := by
  rw [r9, runF_eq rfl]
  simp [c9, h1, h2]
/-! ### fractions in lowest terms -/
/-- a fraction in lowest terms, not too great -/
structure Frac (a b : Int) : Prop where
  pos : 1 ≤ b
  low : Nat.gcd a.natAbs b.natAbs = 1
  sa : a.natAbs < 2 ^ 20
  sb : b.natAbs < 2 ^ 20
theorem Frac.is {n : Nat} {a b : Int} (h : Frac a b) : run code (n + 3) 5 [.fz (Pr a b)] = .ok (.fz (.bl true)) [.fz (Pr a b)] := by
  rw [isFraction_pair n a b (Nat.lt_of_lt_of_le h.sa (by decide))]
  simp [h.pos, h.low]
/-- require_fractions on fractions -/
theorem require_ev (n : Nat) (l : List (Int × Int)) (hl : l.length ≤ 100) (h : ∀ p ∈ l, Frac p.1 p.2) : run code (n + 4) 8 [.fz (.tup (l.map fun p => Pr p.1 p.2))] = .ok (.fz .non) [.fz (.tup (l.map fun p => Pr p.1 p.2))] := by
  rw [r8, runF_eq rfl]
  have e := lcS_map (np := 1) (cf := run code (n + 3)) (elt := .call 5 (.cons (.slot 1) .nil)) (tg := .tName 1) (vs := [1]) (ds := l.map fun p => Pr p.1 p.2) (ρ := [.fz (.tup (l.map fun p => Pr p.1 p.2)), .un]) (fun _ => .bl true) rfl
    (by rw [List.length_map]; unfold maxLen; omega) fun d hd => by
      obtain ⟨p, hp, rfl⟩ := List.mem_map.mp hd
      exact ⟨.fz (.tup (l.map fun p => Pr p.1 p.2)), [.fz (Pr p.1 p.2)], rfl, by simp [(h p hp).is], rfl⟩
  have e2 : allB (l.map fun _ => D.bl true) = some true := by
    clear e h hl
    induction l with
    | nil => rfl
    | cons p l ih => rw [List.map_cons, allB_cons, ih]; rfl
  simp [c8, e, List.map_map, Function.comp_def, e2]
theorem isLower_ev (n : Nat) {a b c d : Int} (h1 : Frac a b) (h2 : Frac c d) : run code (n + 5) 10 [.fz (Pr a b), .fz (Pr c d)] = .ok (.fz (.bl (decide (a * d < c * b)))) [.fz (Pr a b), .fz (Pr c d)] := by
  rw [r10, runF_eq rfl]
  have e := require_ev n [(a, b), (c, d)] (by simp) (by intro p hp; simp at hp; rcases hp with rfl | rfl <;> assumption)
  have e2 := isLess_ev (n + 3) a b c d (mulOk_l (Nat.lt_of_lt_of_le h1.sa (by decide))) (mulOk_l (Nat.lt_of_lt_of_le h2.sa (by decide)))
  simp at e
  simp [c10, tupR, maxLen, e, e2]
/-- lowest terms -/
def LO (a b : Int) : Int × Int := (a / gc a b.toNat, b / gc a b.toNat)
theorem gc_dvd_l (a : Int) (b : Nat) : gc a b ∣ a := Int.ofNat_dvd_left.mpr (Nat.gcd_dvd_left _ _)
theorem gc_dvd_r (a : Int) (b : Nat) : gc a b ∣ (b : Int) := Int.natCast_dvd_natCast.mpr (Nat.gcd_dvd_right _ _)
/-- what lowest terms are of -/
theorem LO_spec {a b : Int} (hb : 1 ≤ b) : ∃ g : Int, 1 ≤ g ∧ a = (LO a b).1 * g ∧ b = (LO a b).2 * g ∧ 1 ≤ (LO a b).2 := by
  obtain ⟨k, rfl⟩ : ∃ k : Nat, b = k := ⟨b.toNat, by omega⟩
  have hk : 0 < k := by omega
  have h1 := gc_pos a hk
  have e : (LO a (k : Int)) = (a / gc a k, (k : Int) / gc a k) := by unfold LO; simp
  rw [e]
  have d1 := Int.ediv_mul_cancel (gc_dvd_l a k)
  have d2 := Int.ediv_mul_cancel (gc_dvd_r a k)
  refine ⟨gc a k, h1, d1.symm, d2.symm, ?_⟩
  show 1 ≤ (k : Int) / gc a k
  exact (Int.le_ediv_iff_mul_le h1).mpr (by have := gc_le a hk; omega)
theorem LO_scale {a b k : Int} (hb : 1 ≤ b) (hk : 1 ≤ k) : LO (a * k) (b * k) = LO a b := by
  obtain ⟨b, rfl⟩ : ∃ m : Nat, b = m := ⟨b.toNat, by omega⟩
  obtain ⟨k, rfl⟩ : ∃ m : Nat, k = m := ⟨k.toNat, by omega⟩
  have e : gc (a * k) (((b : Int) * (k : Int)).toNat) = gc a b * k := by
    have e1 : ((b : Int) * (k : Int)).toNat = b * k := by rw [← Int.natCast_mul]; rfl
    rw [e1]
    show ((Nat.gcd (a * k).natAbs (b * k) : Nat) : Int) = _
    rw [Int.natAbs_mul, Int.natAbs_natCast, Nat.gcd_mul_right]
    exact Int.natCast_mul _ _
  have hk' : (k : Int) ≠ 0 := by omega
  unfold LO
  rw [e]
  simp only [Int.toNat_natCast]
  rw [Int.mul_ediv_mul_of_pos_left _ _ (by omega), Int.mul_ediv_mul_of_pos_left _ _ (by omega)]
theorem LO_cross {a b c d : Int} (hb : 1 ≤ b) (hd : 1 ≤ d) (h : a * d = c * b) : LO a b = LO c d := by
  rw [← LO_scale (a := a) hb hd, ← LO_scale (a := c) hd hb, h, Int.mul_comm b d]
theorem LO_idem {a b : Int} (hb : 1 ≤ b) : LO (LO a b).1 (LO a b).2 = LO a b := by
  obtain ⟨g, hg, h1, h2, h3⟩ := LO_spec (a := a) hb
  have := LO_scale (a := (LO a b).1) (b := (LO a b).2) h3 hg
  rw [← h1, ← h2] at this
  exact this.symm
theorem LO_low {a b : Int} (hb : 1 ≤ b) : Nat.gcd (LO a b).1.natAbs (LO a b).2.natAbs = 1 := by
  obtain ⟨b, rfl⟩ : ∃ m : Nat, b = m := ⟨b.toNat, by omega⟩
  have hk : 0 < b := by omega
  have hg : 0 < Nat.gcd a.natAbs b := Nat.gcd_pos_of_pos_right _ hk
  have e1 : (LO a (b : Int)).1.natAbs = a.natAbs / Nat.gcd a.natAbs b := by
    show (a / ((Nat.gcd a.natAbs ((b : Int).toNat) : Nat) : Int)).natAbs = _
    rw [Int.toNat_natCast]
    obtain ⟨c, hc⟩ := gc_dvd_l a b
    have hc : a = ((Nat.gcd a.natAbs b : Nat) : Int) * c := hc
    have hc2 : a.natAbs = Nat.gcd a.natAbs b * c.natAbs := by
      have := congrArg Int.natAbs hc
      rw [Int.natAbs_mul, Int.natAbs_natCast] at this
      exact this
    generalize Nat.gcd a.natAbs b = g at *
    rw [hc, Int.mul_ediv_cancel_left _ (by omega), ← hc, hc2, Nat.mul_div_cancel_left _ hg]
  have e2 : (LO a (b : Int)).2.natAbs = b / Nat.gcd a.natAbs b := by
    show ((b : Int) / ((Nat.gcd a.natAbs ((b : Int).toNat) : Nat) : Int)).natAbs = _
    rw [Int.toNat_natCast, ← Int.natCast_ediv, Int.natAbs_natCast]
  rw [e1, e2]
  rw [Nat.gcd_div (Nat.gcd_dvd_left _ _) (Nat.gcd_dvd_right _ _)]
  exact Nat.div_self hg
theorem LO_le {a b : Int} (hb : 1 ≤ b) : (LO a b).1.natAbs ≤ a.natAbs ∧ (LO a b).2 ≤ b := by
  obtain ⟨g, hg, h1, h2, h3⟩ := LO_spec (a := a) hb
  constructor
  · have := congrArg Int.natAbs h1
    rw [Int.natAbs_mul] at this
    rw [this]
    exact Nat.le_mul_of_pos_right _ (by omega)
  · have : (LO a b).2 * 1 ≤ (LO a b).2 * g := Int.mul_le_mul_of_nonneg_left hg (by omega)
    omega
theorem Frac.of {a b : Int} (hb : 1 ≤ b) (ha : a.natAbs < 2 ^ 20) (hb2 : b.natAbs < 2 ^ 20) : Frac (LO a b).1 (LO a b).2 := by
  obtain ⟨g, hg, h1, h2, h3⟩ := LO_spec (a := a) hb
  have := LO_le (a := a) hb
  exact ⟨h3, LO_low hb, by omega, by omega⟩
theorem fraction_LO (n : Nat) (a b : Int) (ha : a.natAbs < whlMax) (hb : 1 ≤ b) (hb2 : b < 2 ^ 64) : run code (n + 4) 7 [I a, I b] = .ok (.fz (Pr (LO a b).1 (LO a b).2)) [I a, I b] := by
  obtain ⟨b, rfl⟩ : ∃ m : Nat, b = m := ⟨b.toNat, by omega⟩
  rw [fraction_ev n a b ha (by omega) (by omega)]
  simp [LO]
theorem fractionIn_LO (n : Nat) (a b : Int) (ha : a.natAbs < whlMax) (hb : 1 ≤ b) (hb2 : b < 2 ^ 64) : run code (n + 2) 6 [I a, I b] = .ok (.fz (Pr (LO a b).1 (LO a b).2)) [I a, I b] := by
  obtain ⟨b, rfl⟩ : ∃ m : Nat, b = m := ⟨b.toNat, by omega⟩
  rw [fractionIn_ev n a b ha (by omega) (by omega)]
  simp [LO]
theorem lowest_LO (n : Nat) (a b : Int) (hb : 1 ≤ b) (hb2 : b < 2 ^ 64) : run code (n + 1) 18 [I a, I b] = .ok (.fz (Pr (LO a b).1 (LO a b).2)) [I a, I b] := by
  obtain ⟨b, rfl⟩ : ∃ m : Nat, b = m := ⟨b.toNat, by omega⟩
  rw [lowest_ev n a b (by omega) (by omega)]
  simp [LO]
end K01

/-! K01p2: sums and products. -/
namespace K01
open PySem hiding run
open L2 PV
theorem mul_small {x y : Int} {X Y : Nat} (hx : x.natAbs ≤ X) (hy : y.natAbs ≤ Y) : (x * y).natAbs ≤ X * Y := by
  rw [Int.natAbs_mul]
  exact Nat.mul_le_mul hx hy
/-- a total, not too great -/
structure Bd (M : Nat) (A B : Int) : Prop where
  pos : 1 ≤ B
  sb : B.natAbs ≤ M
  sa : A.natAbs ≤ M
/-- a row's fraction -/
structure Rw (a b : Int) : Prop where
  pos : 1 ≤ b
  low : Nat.gcd a.natAbs b.natAbs = 1
  sa : a.natAbs ≤ 40
  sb : b.natAbs ≤ 40
theorem Rw.frac {a b : Int} (h : Rw a b) : Frac a b := ⟨h.pos, h.low, Nat.lt_of_le_of_lt h.sa (by decide), Nat.lt_of_le_of_lt h.sb (by decide)⟩
theorem mul_pos1 {a b : Int} (ha : 1 ≤ a) (hb : 1 ≤ b) : 1 ≤ a * b := by
  have := Int.mul_pos (show 0 < a by omega) (show 0 < b by omega)
  omega
theorem Bd.sum {M : Nat} {A B a b : Int} (h : Bd M A B) (r : Rw a b) : Bd (M * 80) (A * b + a * B) (B * b) := by
  have h1 := mul_small h.sa r.sb
  have h2 := mul_small r.sa h.sb
  have h3 := mul_small h.sb r.sb
  exact ⟨mul_pos1 h.pos r.pos, by omega, by omega⟩
theorem Bd.prod {M : Nat} {A B a b : Int} (h : Bd M A B) (r : Rw a b) : Bd (M * 80) (A * a) (B * b) := by
  have h1 := mul_small h.sa r.sa
  have h3 := mul_small h.sb r.sb
  exact ⟨mul_pos1 h.pos r.pos, by omega, by omega⟩
theorem Bd.lo {M : Nat} {A B : Int} (h : Bd M A B) : Bd M (LO A B).1 (LO A B).2 := by
  obtain ⟨g, hg, h1, h2, h3⟩ := LO_spec (a := A) h.pos
  have h4 := LO_le (a := A) h.pos
  have := h.sa
  have := h.sb
  exact ⟨h3, by omega, by omega⟩
abbrev Pp (p : Int × Int) : D := Pr p.1 p.2
theorem lt20 {M : Nat} {x : Int} (h : x.natAbs ≤ M) (hM : M ≤ 600000) : x.natAbs < 2 ^ 64 := Nat.lt_of_le_of_lt (Nat.le_trans h hM) (by decide)
theorem lt30 {M : Nat} {x : Int} (h : x.natAbs ≤ M) (hM : M ≤ 600000) : x.natAbs < whlMax := Nat.lt_of_le_of_lt (Nat.le_trans h hM) (by decide)
theorem sumIn_ev (n : Nat) {M : Nat} {A B a b : Int} (h : Bd M A B) (r : Rw a b) (hM : M ≤ 6400) : run code (n + 3) 11 [.fz (Pp (LO A B)), .fz (Pr a b)] = .ok (.fz (Pp (LO (A * b + a * B) (B * b)))) [.fz (Pp (LO A B)), .fz (Pr a b)] := by
  obtain ⟨g, hg, h1, h2, h3⟩ := LO_spec (a := A) h.pos
  have hl := h.lo
  have hs := hl.sum r
  have e : LO ((LO A B).1 * b + a * (LO A B).2) ((LO A B).2 * b) = LO (A * b + a * B) (B * b) := by
    refine LO_cross hs.pos (h.sum r).pos ?_
    generalize (LO A B).1 = X at *
    generalize (LO A B).2 = Y at *
    subst h1 h2
    clear hs hl h r
    grind
  have m1 : mulOk (LO A B).1 b = true := mulOk_l (lt20 hl.sa (by omega))
  have m2 : mulOk a (LO A B).2 = true := mulOk_r (lt20 hl.sb (by omega))
  have m3 : mulOk (LO A B).2 b = true := mulOk_l (lt20 hl.sb (by omega))
  have f := fractionIn_LO (n) ((LO A B).1 * b + a * (LO A B).2) ((LO A B).2 * b) (lt30 hs.sa (by omega)) hs.pos (by have := hs.sb; omega)
  rw [e] at f
  rw [r11, runF_eq rfl]
  simp [c11, m1, m2, m3, f]
theorem prodIn_ev (n : Nat) {M : Nat} {A B a b : Int} (h : Bd M A B) (r : Rw a b) (hM : M ≤ 6400) : run code (n + 3) 13 [.fz (Pp (LO A B)), .fz (Pr a b)] = .ok (.fz (Pp (LO (A * a) (B * b)))) [.fz (Pp (LO A B)), .fz (Pr a b)] := by
  obtain ⟨g, hg, h1, h2, h3⟩ := LO_spec (a := A) h.pos
  have hl := h.lo
  have hs := hl.prod r
  have e : LO ((LO A B).1 * a) ((LO A B).2 * b) = LO (A * a) (B * b) := by
    refine LO_cross hs.pos (h.prod r).pos ?_
    generalize (LO A B).1 = X at *
    generalize (LO A B).2 = Y at *
    subst h1 h2
    clear hs hl h r
    grind
  have m1 : mulOk (LO A B).1 a = true := mulOk_l (lt20 hl.sa (by omega))
  have m3 : mulOk (LO A B).2 b = true := mulOk_l (lt20 hl.sb (by omega))
  have f := fractionIn_LO (n) ((LO A B).1 * a) ((LO A B).2 * b) (lt30 hs.sa (by omega)) hs.pos (by have := hs.sb; omega)
  rw [e] at f
  rw [r13, runF_eq rfl]
  simp [c13, m1, m3, f]
/-- the total of rows -/
def sums : List (Int × Int) → Int × Int → Int × Int
  | [], t => t
  | p :: l, t => sums l (t.1 * p.2 + p.1 * t.2, t.2 * p.2)
def prods : List (Int × Int) → Int × Int → Int × Int
  | [], t => t
  | p :: l, t => prods l (t.1 * p.1, t.2 * p.2)
theorem sums_bd : ∀ (l : List (Int × Int)) (t : Int × Int) (M : Nat), Bd M t.1 t.2 → (∀ p ∈ l, Rw p.1 p.2) → Bd (M * 80 ^ l.length) (sums l t).1 (sums l t).2
  | [], t, M, h, _ => by simpa [sums] using h
  | p :: l, t, M, h, hr => by
    have := sums_bd l (t.1 * p.2 + p.1 * t.2, t.2 * p.2) _ (h.sum (hr p List.mem_cons_self)) fun q hq => hr q (List.mem_cons_of_mem _ hq)
    rw [List.length_cons, Nat.pow_succ, Nat.mul_comm (80 ^ l.length), ← Nat.mul_assoc]
    exact this
theorem prods_bd : ∀ (l : List (Int × Int)) (t : Int × Int) (M : Nat), Bd M t.1 t.2 → (∀ p ∈ l, Rw p.1 p.2) → Bd (M * 80 ^ l.length) (prods l t).1 (prods l t).2
  | [], t, M, h, _ => by simpa [prods] using h
  | p :: l, t, M, h, hr => by
    have := prods_bd l (t.1 * p.1, t.2 * p.2) _ (h.prod (hr p List.mem_cons_self)) fun q hq => hr q (List.mem_cons_of_mem _ hq)
    rw [List.length_cons, Nat.pow_succ, Nat.mul_comm (80 ^ l.length), ← Nat.mul_assoc]
    exact this
theorem step_le {M k : Nat} (h : M * 80 ^ (k + 1) ≤ 512000) : M ≤ 6400 ∧ M * 80 * 80 ^ k ≤ 512000 := by
  rw [Nat.pow_succ, Nat.mul_comm (80 ^ k), ← Nat.mul_assoc] at h
  refine ⟨?_, h⟩
  have : M * 80 * 1 ≤ M * 80 * 80 ^ k := Nat.mul_le_mul_left _ (Nat.pow_pos (by decide))
  omega
abbrev bc12 : C := .cons (.sAsg (.tName 1) (.call 11 (.cons (.slot 1) (.cons (.slot 2) .nil)))) .nil
abbrev bc14 : C := .cons (.sAsg (.tName 1) (.call 13 (.cons (.slot 1) (.cons (.slot 2) .nil)))) .nil
theorem sum_loop (n : Nat) (s : Sl) : ∀ (l : List (Int × Int)) (t : Int × Int) (M : Nat) (x : Sl), Bd M t.1 t.2 → (∀ p ∈ l, Rw p.1 p.2) → M * 80 ^ l.length ≤ 512000 →
    ∃ x', forS 1 (run code (n + 3)) (.tName 2) bc12 (l.map Pp) [s, .fz (Pp (LO t.1 t.2)), x] = .next [s, .fz (Pp (LO (sums l t).1 (sums l t).2)), x']
  | [], t, M, x, _, _, _ => ⟨x, rfl⟩
  | p :: l, t, M, x, h, hr, hM => by
    rw [List.length_cons] at hM
    obtain ⟨hM1, hM2⟩ := step_le hM
    have rp := hr p List.mem_cons_self
    obtain ⟨x', ih⟩ := sum_loop n s l (t.1 * p.2 + p.1 * t.2, t.2 * p.2) (M * 80) (.fz (Pp p)) (h.sum rp) (fun q hq => hr q (List.mem_cons_of_mem _ hq)) hM2
    have e := sumIn_ev n h rp hM1
    refine ⟨x', ?_⟩
    unfold forS at ih ⊢
    rw [List.map_cons, forL]
    simp [e]
    exact ih
theorem prod_loop (n : Nat) (s : Sl) : ∀ (l : List (Int × Int)) (t : Int × Int) (M : Nat) (x : Sl), Bd M t.1 t.2 → (∀ p ∈ l, Rw p.1 p.2) → M * 80 ^ l.length ≤ 512000 →
    ∃ x', forS 1 (run code (n + 3)) (.tName 2) bc14 (l.map Pp) [s, .fz (Pp (LO t.1 t.2)), x] = .next [s, .fz (Pp (LO (prods l t).1 (prods l t).2)), x']
  | [], t, M, x, _, _, _ => ⟨x, rfl⟩
  | p :: l, t, M, x, h, hr, hM => by
    rw [List.length_cons] at hM
    obtain ⟨hM1, hM2⟩ := step_le hM
    have rp := hr p List.mem_cons_self
    obtain ⟨x', ih⟩ := prod_loop n s l (t.1 * p.1, t.2 * p.2) (M * 80) (.fz (Pp p)) (h.prod rp) (fun q hq => hr q (List.mem_cons_of_mem _ hq)) hM2
    have e := prodIn_ev n h rp hM1
    refine ⟨x', ?_⟩
    unfold forS at ih ⊢
    rw [List.map_cons, forL]
    simp [e]
    exact ih
theorem LO_01 : LO 0 1 = (0, 1) := by decide
theorem LO_11 : LO 1 1 = (1, 1) := by decide
theorem pow80 {k : Nat} (h : k ≤ 3) : 1 * 80 ^ k ≤ 512000 := by
  have := Nat.pow_le_pow_right (show 0 < 80 by decide) h
  omega
theorem added_ev (n : Nat) (l : List (Int × Int)) (hl : l.length ≤ 3) (h : ∀ p ∈ l, Rw p.1 p.2) : run code (n + 5) 12 [.fz (.tup (l.map Pp))] = .ok (.fz (Pp (LO (sums l (0, 1)).1 (sums l (0, 1)).2))) [.fz (.tup (l.map Pp))] := by
  have e := require_ev n l (by omega) fun p hp => (h p hp).frac
  obtain ⟨x', e2⟩ := sum_loop (n + 1) (.fz (.tup (l.map Pp))) l (0, 1) 1 .un ⟨by decide, by decide, by decide⟩ h (pow80 hl)
  simp only [LO_01] at e2
  rw [r12, runF_eq rfl]
  simp [c12, tupR, maxLen, e, e2]
theorem multiplied_ev (n : Nat) (l : List (Int × Int)) (hl : l.length ≤ 3) (h : ∀ p ∈ l, Rw p.1 p.2) : run code (n + 5) 14 [.fz (.tup (l.map Pp))] = .ok (.fz (Pp (LO (prods l (1, 1)).1 (prods l (1, 1)).2))) [.fz (.tup (l.map Pp))] := by
  have e := require_ev n l (by omega) fun p hp => (h p hp).frac
  obtain ⟨x', e2⟩ := prod_loop (n + 1) (.fz (.tup (l.map Pp))) l (1, 1) 1 .un ⟨by decide, by decide, by decide⟩ h (pow80 hl)
  simp only [LO_11] at e2
  rw [r14, runF_eq rfl]
  simp [c14, tupR, maxLen, e, e2]
end K01

/-! K01p3: the law's own sums, dice. -/
namespace K01
open PySem hiding run
open L2 PV
abbrev bc22 : C := .cons (.sAsg (.tName 3) (.tup (.cons (.bin .Add (.bin .Mult (.sub (.slot 3) (.con (.int 0))) (.sub (.slot 1) (.con (.int 1)))) (.bin .Mult (.sub (.slot 1) (.con (.int 0))) (.sub (.slot 3) (.con (.int 1))))) (.cons (.bin .Mult (.sub (.slot 3) (.con (.int 1))) (.sub (.slot 1) (.con (.int 1)))) .nil)))) (.cons (.sAsg (.tName 4) (.tup (.cons (.bin .Mult (.sub (.slot 4) (.con (.int 0))) (.sub (.slot 1) (.con (.int 0)))) (.cons (.bin .Mult (.sub (.slot 4) (.con (.int 1))) (.sub (.slot 1) (.con (.int 1)))) .nil)))) .nil)
theorem tot_loop (cf : Nat → List Sl → CRes) (s w : Sl) : ∀ (l : List (Int × Int)) (t u : Int × Int) (M : Nat) (x : Sl), Bd M t.1 t.2 → Bd M u.1 u.2 → (∀ p ∈ l, Rw p.1 p.2) → M * 80 ^ l.length ≤ 512000 →
    ∃ x', forS 1 cf (.tName 1) bc22 (l.map Pp) [s, x, w, .fz (Pp t), .fz (Pp u)] = .next [s, x', w, .fz (Pp (sums l t)), .fz (Pp (prods l u))]
  | [], t, u, M, x, _, _, _, _ => ⟨x, rfl⟩
  | p :: l, t, u, M, x, h, h', hr, hM => by
    rw [List.length_cons] at hM
    obtain ⟨hM1, hM2⟩ := step_le hM
    have rp := hr p List.mem_cons_self
    obtain ⟨x', ih⟩ := tot_loop cf s w l (t.1 * p.2 + p.1 * t.2, t.2 * p.2) (u.1 * p.1, u.2 * p.2) (M * 80) (.fz (Pp p)) (h.sum rp) (h'.prod rp) (fun q hq => hr q (List.mem_cons_of_mem _ hq)) hM2
    refine ⟨x', ?_⟩
    have m1 : mulOk t.1 p.2 = true := mulOk_l (lt20 h.sa (by omega))
    have m2 : mulOk p.1 t.2 = true := mulOk_r (lt20 h.sb (by omega))
    have m3 : mulOk t.2 p.2 = true := mulOk_l (lt20 h.sb (by omega))
    have m4 : mulOk u.1 p.1 = true := mulOk_l (lt20 h'.sa (by omega))
    have m5 : mulOk u.2 p.2 = true := mulOk_l (lt20 h'.sb (by omega))
    unfold forS at ih ⊢
    rw [List.map_cons, forL]
    simp [m1, m2, m3, m4, m5, tupR, maxLen]
    exact ih
theorem lowest_bd (n : Nat) {M : Nat} {p : Int × Int} (h : Bd M p.1 p.2) (hM : M ≤ 600000) : run code (n + 1) 18 [I p.1, I p.2] = .ok (.fz (Pp (LO p.1 p.2))) [I p.1, I p.2] := lowest_LO n p.1 p.2 h.pos (by have := h.sb; omega)
theorem sumsRight_ev (n : Nat) (l : List (Int × Int)) (hl : l.length ≤ 3) (h : ∀ p ∈ l, Rw p.1 p.2) : ∃ s, run code (n + 6) 22 [.ow (.lst (l.map Pp))] = .ok (.fz (.bl true)) [s] := by
  obtain ⟨x', e⟩ := tot_loop (run code (n + 5)) (.fz (.lst (l.map Pp))) .un l (0, 1) (1, 1) 1 .un ⟨by decide, by decide, by decide⟩ ⟨by decide, by decide, by decide⟩ h (pow80 hl)
  have a0 := added_ev n [] (by decide) (by simp)
  have m0 := multiplied_ev n [] (by decide) (by simp)
  have a1 := added_ev n l hl h
  have m1 := multiplied_ev n l hl h
  have b1 := lowest_bd (n + 4) (p := sums l (0, 1)) (sums_bd l (0, 1) 1 ⟨by decide, by decide, by decide⟩ h) (by have := pow80 hl; omega)
  have b2 := lowest_bd (n + 4) (p := prods l (1, 1)) (prods_bd l (1, 1) 1 ⟨by decide, by decide, by decide⟩ h) (by have := pow80 hl; omega)
  refine ⟨.fz (.lst (l.map Pp)), ?_⟩
  have fin : eqD (.lst [Pp (LO (sums l (0, 1)).1 (sums l (0, 1)).2), Pp (LO (prods l (1, 1)).1 (prods l (1, 1)).2)]) (.lst [Pp (LO (sums l (0, 1)).1 (sums l (0, 1)).2), Pp (LO (prods l (1, 1)).1 (prods l (1, 1)).2)]) = some true := eqD_same rfl
  rw [r22, runF_eq rfl]
  simp only [List.map_nil] at a0 m0
  match l, hl with
  | [], _ =>
    simp only [List.map_nil] at *
    simp [c22, tupR, maxLen, e, a0, m0, b1, b2, callSR, lstR, eqD_int, fin]
  | [p], _ =>
    simp only [List.map_nil, List.map_cons] at *
    simp [c22, tupR, maxLen, e, a0, m0, a1, m1, b1, b2, callSR, lstR, eqD_int, fin]
  | [p, q], _ =>
    simp only [List.map_nil, List.map_cons] at *
    simp [c22, tupR, maxLen, e, a0, m0, a1, m1, b1, b2, callSR, lstR, eqD_int, fin]
  | [p, q, r], _ =>
    simp only [List.map_nil, List.map_cons] at *
    simp [c22, tupR, maxLen, e, a0, m0, a1, m1, b1, b2, callSR, lstR, eqD_int, fin]
end K01

/-! K01p4: lowest terms as the law has them; dice. -/
namespace K01
open PySem hiding run
open L2 PV
theorem eqD_nil {l : List D} (h : (D.lst l).lev 10 = true) : eqD (.lst l) (.lst []) = some l.isEmpty := by
  unfold eqD
  rw [lev_cmp h, if_pos (show (true && (D.lst []).cmpOk) = true from rfl)]
  cases l with
  | nil => rfl
  | cons d l => simp [D.py, D.pys, PyData.eqv, PyData.eqvAll]
theorem lev_ints (l : List Int) : (D.lst (l.map .int)).lev 10 = true := by
  show (l.map D.int).all (D.lev 9) = true
  rw [List.all_map]
  exact List.all_eq_true.mpr fun _ _ => rfl
theorem rngD_map (i : Int) (n : Nat) : rngD i n = ((List.range n).map fun (k : Nat) => i + (k : Int)).map .int := by
  unfold rngD
  rw [List.map_map]
  rfl
abbrev dv (a b : Int) (d : D) : Bool := match d with | .int k => decide (a % k = 0) && decide (b % k = 0) | _ => false
theorem isLowest_ev (n : Nat) {a b : Int} (hb : 1 ≤ b) (sa : a.natAbs ≤ 40) (sb : b.natAbs ≤ 40) : run code (n + 1) 20 [.fz (Pr a b)] = .ok (.fz (.bl (decide (Nat.gcd a.natAbs b.natAbs = 1)))) [.fz (Pr a b)] := by
  have e : (if a < 0 then -a else a) = (a.natAbs : Int) := by omega
  have h1 : (-4611686018427387904 : Int) ≤ (a.natAbs : Int) + b + 1 ∧ (a.natAbs : Int) + b + 1 < 4611686018427387904 := by omega
  let N : Nat := ((a.natAbs : Int) + b + 1 - 2).toNat
  have hN : ((a.natAbs : Int) + b + 1 - 2).toNat = N := rfl
  have hlen : (rngD 2 N).length ≤ maxLen := by
    rw [rngD, List.length_map, List.length_range]
    unfold maxLen
    omega
  have el := lcS_pure (np := 1) (cf := run code n) (elt := .slot 4) (tg := .tName 4) (ifs := .tAnd (.tVal (.cmp .Eq (.bin .Mod (.slot 2) (.slot 4)) (.con (.int 0)))) (.tVal (.cmp .Eq (.bin .Mod (.slot 3) (.slot 4)) (.con (.int 0))))) (vs := [4]) (ds := rngD 2 N)
    (ρ := [.fz (Pr a b), .fz (.lst (rngD 2 N)), I a, I b, .un]) (dv a b) (fun d => d) rfl hlen fun d hd => by
      obtain ⟨k, hk, rfl⟩ := List.mem_map.mp hd
      have hk2 : 0 < 2 + (k : Int) := by omega
      refine ⟨[.fz (Pr a b), .fz (.lst (rngD 2 N)), I a, I b, I (2 + (k : Int))], rfl, ?_, fun _ => rfl, rfl⟩
      simp [hk2, eqD_int]
      split <;> simp_all
  have ef : eqD (.lst ((rngD 2 N).filter (dv a b))) (.lst []) = some (decide (Nat.gcd a.natAbs b.natAbs = 1)) := by
    have hl : (D.lst ((rngD 2 N).filter (dv a b))).lev 10 = true := by
      show ((rngD 2 N).filter (dv a b)).all (D.lev 9) = true
      refine List.all_eq_true.mpr fun d hd => ?_
      obtain ⟨k, hk, rfl⟩ := List.mem_map.mp (List.mem_filter.mp hd).1
      rfl
    rw [eqD_nil hl]
    congr 1
    rw [Bool.eq_iff_iff, List.isEmpty_iff, List.filter_eq_nil_iff, decide_eq_true_iff]
    constructor
    · intro h
      refine Classical.byContradiction fun hg => ?_
      have hg0 : 0 < Nat.gcd a.natAbs b.natAbs := Nat.gcd_pos_of_pos_right _ (by omega)
      have hg1 := Nat.gcd_le_right a.natAbs (show 0 < b.natAbs by omega)
      have d1 : ((Nat.gcd a.natAbs b.natAbs : Nat) : Int) ∣ a := Int.ofNat_dvd_left.mpr (Nat.gcd_dvd_left _ _)
      have d2 : ((Nat.gcd a.natAbs b.natAbs : Nat) : Int) ∣ b := Int.ofNat_dvd_left.mpr (Nat.gcd_dvd_right _ _)
      generalize Nat.gcd a.natAbs b.natAbs = g at *
      have := h (.int (2 + ((g - 2 : Nat) : Int))) (List.mem_map.mpr ⟨g - 2, List.mem_range.mpr (by omega), rfl⟩)
      have eg : 2 + ((g - 2 : Nat) : Int) = (g : Int) := by omega
      rw [eg] at this
      simp [dv, Int.emod_eq_zero_of_dvd d1, Int.emod_eq_zero_of_dvd d2] at this
    · intro hg d hd
      obtain ⟨k, hk, rfl⟩ := List.mem_map.mp hd
      intro hc
      simp only [dv, Bool.and_eq_true, decide_eq_true_eq] at hc
      have d1 := Int.natAbs_dvd_natAbs.mpr (Int.dvd_of_emod_eq_zero hc.1)
      have d2 := Int.natAbs_dvd_natAbs.mpr (Int.dvd_of_emod_eq_zero hc.2)
      have := Nat.dvd_gcd d1 d2
      rw [hg] at this
      have := Nat.le_of_dvd (by decide) this
      omega
  rw [r20, runF_eq rfl]
  have hb' : 0 < b := by omega
  simp only [List.map_id'] at el
  simp [c20, e, h1, hN, hlen, lstR, el, ef, hb']
/-! ### dice -/
abbrev Dc (x y z : Int) : Sl := .ow (.lst [.int x, .int y, .int z])
theorem mulOk_c {i j : Int} (h : i.natAbs < 2 ^ 64) : mulOk i j = true := mulOk_l h
theorem roll_ev (n : Nat) (x y z : Int) {s : Int} (h : 0 < s) (h2 : s < 2 ^ 64) : ∃ (v x' z' : Int), 0 ≤ v ∧ v < s ∧ run code (n + 1) 16 [Dc x y z, I s] = .ok (.fz (.int v)) [Dc x' y z', I s] := by
  have hd : divOk s = true := divOk_of h (small (by omega))
  by_cases hx : 0 < x
  · refine ⟨x % s, x / s, z, Int.emod_nonneg _ (by omega), Int.emod_lt_of_pos _ h, ?_⟩
    rw [r16, runF_eq rfl]
    simp [c16, hx, h, hd]
  · let one := (y + 1000303 * (z + 1)) % 2305843009213693951
    let two := (one * one % 2305843009213693921 * one + 9461 * (z + 1)) % 2305843009213693907
    refine ⟨two / 4096 % s, x, z + 1, Int.emod_nonneg _ (by omega), Int.emod_lt_of_pos _ h, ?_⟩
    have o1 : 0 ≤ one ∧ one < 2305843009213693951 := ⟨Int.emod_nonneg _ (by decide), Int.emod_lt_of_pos _ (by decide)⟩
    have m1 : mulOk 1000303 (z + 1) = true := mulOk_l (by decide)
    have m2 : mulOk one one = true := mulOk_l (by omega)
    have m3 : mulOk (one * one % 2305843009213693921) one = true := mulOk_r (by omega)
    have m4 : mulOk 9461 (z + 1) = true := mulOk_l (by decide)
    have d1 : divOk 4096 = true := by decide
    have e1 : (y + 1000303 * (z + 1)) % 2305843009213693951 = one := rfl
    have e2 : (one * one % 2305843009213693921 * one + 9461 * (z + 1)) % 2305843009213693907 = two := rfl
    rw [r16, runF_eq rfl]
    simp [c16, hx, h, m1, m2, m3, m4, d1, e1, e2]
theorem oneOf_ev (n : Nat) (x y z : Int) (l : List D) (h : 0 < l.length) (h2 : l.length ≤ maxLen) : ∃ (d : D) (x' z' : Int), d ∈ l ∧ run code (n + 2) 17 [Dc x y z, .fz (.lst l)] = .ok (.fz d) [Dc x' y z', .fz (.lst l)] := by
  unfold maxLen at h2
  obtain ⟨v, x', z', hv, hv2, e⟩ := roll_ev n x y z (s := l.length) (by omega) (by omega)
  have hk : v.toNat < l.length := by omega
  refine ⟨l[v.toNat], x', z', List.getElem_mem _, ?_⟩
  rw [r17, runF_eq rfl]
  simp [c17, e, ixD_nn hv hv2, hk]
theorem drawn_ev (n : Nat) (x y z : Int) : ∃ (a b x' z' : Int), 1 ≤ b ∧ a.natAbs ≤ 40 ∧ b.natAbs ≤ 40 ∧ run code (n + 3) 21 [Dc x y z] = .ok (.fz (Pr a b)) [Dc x' y z'] := by
  obtain ⟨d, x1, z1, hd, e1⟩ := oneOf_ev n x y z [.int 5, .int 13, .int 40] (by decide) (by decide)
  obtain ⟨g, rfl, hg⟩ : ∃ g : Int, d = .int g ∧ 5 ≤ g ∧ g ≤ 40 := by
    simp at hd
    rcases hd with rfl | rfl | rfl <;> exact ⟨_, rfl, by decide, by decide⟩
  obtain ⟨v, x2, z2, hv, hv2, e2⟩ := roll_ev (n + 1) x1 y z1 (s := 2 * g) (by omega) (by omega)
  obtain ⟨w, x3, z3, hw, hw2, e3⟩ := roll_ev (n + 1) x2 y z2 (s := g) (by omega) (by omega)
  refine ⟨v - g, 1 + w, x3, z3, by omega, by omega, by omega, ?_⟩
  have m : mulOk 2 g = true := mulOk_l (by decide)
  rw [r21, runF_eq rfl]
  simp [c21, lstR, tupR, maxLen, e1, e2, e3, m]
end K01

/-! K01p5: the script's dice, places. -/
namespace K01
open PySem hiding run
open L2 PV
theorem dice_ev (n : Nat) (ns : List Int) (k : Nat) : ∃ x y z, run code (n + 1) 15 [.fz (.scr ns), I k] = .ok (.ow (.lst [.int x, .int y, .int z])) [.fz (.scr ns), I k] := by
  have p1 : powOk 10 60 = true := by decide
  have p2 : powOk (10 ^ 60) 10 = true := by decide
  have p3 : powOk 10 18 = true := by decide
  have p2' := p2
  have d1 : divOk (10 ^ 18) = true := by decide
  have d2 := d1
  simp only [Int.reducePow] at p2' d2
  have m1 : ∀ j, mulOk 89 j = true := fun _ => mulOk_l (by decide)
  have m2 : ∀ j, mulOk j 60493 = true := fun _ => mulOk_r (by decide)
  have m3 : ∀ j, mulOk 3491 j = true := fun _ => mulOk_l (by decide)
  have m4 : ∀ j, mulOk 67 j = true := fun _ => mulOk_l (by decide)
  by_cases hk : k < ns.length
  · have hk' : (k : Int) < (ns.length : Int) := by omega
    rw [r15, runF_eq rfl]
    simp [c15, p1, p2, p2', p3, d1, d2, m1, m2, m3, m4, hk, ixD_nn (show 0 ≤ (k : Int) by omega) hk', lstR, maxLen]
  · rw [r15, runF_eq rfl]
    simp [c15, p1, p2, p2', p3, d1, d2, m1, m2, m3, m4, hk, lstR, maxLen]
/-! ### places -/
abbrev LT : Str := Str.ofString "abcdefghijklmnopqrstuvwxyz"
def isL (c : Nat) : Bool := decide (c ∈ LT.cps.toList)
def pl : D → Bool
  | .str x => decide (1 ≤ x.length) && decide (x.length ≤ 8) && x.cps.toList.all isL
  | _ => false
def plOk : D → Bool
  | .str x => decide (x.length ≤ 1000)
  | .obj _ _ => false
  | .scr _ => false
  | _ => true
theorem isPlace_ev (n : Nat) (d : D) (h : plOk d = true) : run code (n + 1) 3 [.fz d] = .ok (.fz (.bl (pl d))) [.fz d] := by
  rw [r3, runF_eq rfl]
  cases d with
  | obj _ _ => cases h
  | scr _ => cases h
  | str x =>
    have hl : x.length ≤ 1000 := of_decide_eq_true h
    have hl2 : x.length ≤ maxLen := by unfold maxLen; omega
    have e := lcS_map (np := 1) (cf := run code n) (elt := .cmp .In (.slot 1) (.con (.str LT))) (tg := .tName 1) (vs := [1]) (ds := x.cps.toList.map fun c => D.str ⟨#[c]⟩) (ρ := [.fz (.str x), .un])
      (fun d => match d with | .str s => .bl (s.cps.toList.all isL) | _ => .non) rfl (by rw [List.length_map]; exact hl2) fun d hd => by
        obtain ⟨c, hc, rfl⟩ := List.mem_map.mp hd
        exact ⟨.fz (.str x), [.fz (.str ⟨#[c]⟩)], rfl, by simp [inD, isL], rfl⟩
    have e3 : ((x.cps.toList.map fun c => D.str ⟨#[c]⟩).map fun d => match d with | .str s => D.bl (s.cps.toList.all isL) | _ => .non) = x.cps.toList.map (D.bl ∘ isL) := by
      rw [List.map_map]
      refine List.map_congr_left fun c _ => ?_
      simp
    rw [e3] at e
    have e2 : allB (x.cps.toList.map (D.bl ∘ isL)) = some (x.cps.toList.all isL) := by
      generalize x.cps.toList = l
      induction l with
      | nil => rfl
      | cons c l ih =>
        rw [List.map_cons]
        show allB (.bl (isL c) :: _) = _
        rw [allB_cons, ih]
        simp
    simp only [LT] at e
    by_cases h1 : 1 ≤ x.length
    · have h1' : (1 : Int) ≤ (x.length : Int) := by omega
      by_cases h2 : x.length ≤ 8
      · have h2' : (x.length : Int) ≤ 8 := by omega
        simp [c3, isiD, hl2, h1, h2, h1', h2', e, e2, pl]
      · have h2' : ¬ (x.length : Int) ≤ 8 := by omega
        simp [c3, isiD, hl2, h1, h2, h1', h2', e, e2, pl]
    · have h1' : ¬ (1 : Int) ≤ (x.length : Int) := by omega
      simp [c3, isiD, hl2, h1, h1', e, e2, pl]
  | _ => simp [c3, isiD, pl]
/-- a comprehension that may change what a name holds -/
theorem lcL_inv {bd : D → Rho → Option Rho} {tt : Rho → R Bool} {ee : Rho → R RV} {vs : List Nat} (P : Rho → Prop) (Q : D → Prop)
    (h : ∀ d ρ, P ρ → ∃ ρ1 y ρ2, bd d ρ = some ρ1 ∧ tt ρ1 = .ok true ρ1 ∧ (ee ρ1).bind (fun r ρ => toFz ρ r) = .ok y ρ2 ∧ Q y ∧ P (wipeS ρ2 vs)) :
    ∀ (ds acc : List D) (ρ : Rho), P ρ → acc.length + ds.length ≤ maxLen → ∃ ys ρ', lcL bd tt ee vs ds acc ρ = .ok (acc ++ ys) ρ' ∧ P ρ' ∧ ys.length = ds.length ∧ ∀ y ∈ ys, Q y
  | [], acc, ρ, hp, _ => ⟨[], ρ, by simp [lcL], hp, rfl, by simp⟩
  | d :: ds, acc, ρ, hp, hl => by
    obtain ⟨ρ1, y, ρ2, h1, h2, h3, h4, h5⟩ := h d ρ hp
    rw [List.length_cons] at hl
    obtain ⟨ys, ρ', e, hp', hl', hq⟩ := lcL_inv P Q h ds (acc ++ [y]) (wipeS ρ2 vs) h5 (by rw [List.length_append]; simp; omega)
    refine ⟨y :: ys, ρ', ?_, hp', by simp [hl'], ?_⟩
    · unfold lcL
      simp only [h1, h2, R.bind_ok, if_pos]
      cases hr : ee ρ1 with
      | fail => rw [hr] at h3; cases h3
      | ok r ρ3 =>
        rw [hr] at h3
        have h3 : toFz ρ3 r = .ok y ρ2 := h3
        simp only [R.bind_ok, h3]
        rw [if_pos (by omega), e]
        simp
    · intro z hz
      rcases List.mem_cons.mp hz with rfl | hz
      · exact h4
      · exact hq z hz
def oneL (d : D) : Prop := ∃ c, isL c = true ∧ d = .str ⟨#[c]⟩
theorem oneLs {ys : List D} (h : ∀ y ∈ ys, oneL y) : ∃ cs : List Nat, cs.length = ys.length ∧ (∀ c ∈ cs, isL c = true) ∧ ys = (cs.map fun c => (⟨#[c]⟩ : Str)).map D.str := by
  induction ys with
  | nil => exact ⟨[], rfl, by simp, rfl⟩
  | cons y ys ih =>
    obtain ⟨cs, h1, h2, h3⟩ := ih fun z hz => h z (List.mem_cons_of_mem _ hz)
    obtain ⟨c, hc, rfl⟩ := h y List.mem_cons_self
    refine ⟨c :: cs, by simp [h1], ?_, by rw [h3]; rfl⟩
    intro z hz
    rcases List.mem_cons.mp hz with rfl | hz
    · exact hc
    · exact h2 z hz
theorem sum_ones (cs : List Nat) : ((cs.map fun c => (⟨#[c]⟩ : Str)).map Str.length).sum = cs.length := by
  induction cs with
  | nil => rfl
  | cons c cs ih => simp only [List.map_cons, List.sum_cons, ih, List.length_cons]; show 1 + _ = _; omega
theorem join_ones (cs : List Nat) : Txt.join (Str.ofString "") (cs.map fun c => (⟨#[c]⟩ : Str)) = ⟨cs.toArray⟩ := by
  show Builtin.Str.glued (PySem.Str.ofString "") _ = _
  rw [StrLaws.glued_eq_join]
  have z : Str.ofString "" = ⟨#[]⟩ := by decide
  rw [z]
  induction cs with
  | nil => rfl
  | cons c cs ih =>
    cases cs with
    | nil => rfl
    | cons c' cs =>
      show (⟨#[c]⟩ : Str) ++ ⟨#[]⟩ ++ Str.join ⟨#[]⟩ (((c' :: cs).map fun c => (⟨#[c]⟩ : Str))) = _
      rw [ih]
      show Str.mk (#[c] ++ #[] ++ (c' :: cs).toArray) = _
      simp
theorem toL (k : Nat) : (Str.ofString "abcdefghijklmnopqrstuvwxyz").cps.toList.length = 26 := by decide
end K01

/-! K01p6: places. -/
namespace K01
open PySem hiding run
open L2 PV
theorem lcS_inv {np : Nat} {cf : Nat → List Sl → CRes} {elt tg : C} {vs : List Nat} {ds : List D} {ρ : Rho} (P : Rho → Prop) (Q : D → Prop) (hv : vs.any (fun v => isOw ρ[v]? || decide (v < np)) = false) (hl : ds.length ≤ maxLen) (hP : P (wipeS ρ vs))
    (h : ∀ d ρ, P ρ → ∃ s ρ1 y ρ2, bindT np tg d ρ = some (s :: ρ1) ∧ (evE np cf elt (s :: ρ1)).bind (fun r ρ => toFz ρ r) = .ok y ρ2 ∧ Q y ∧ P (wipeS ρ2 vs)) :
    ∃ ys ρ', lcS np cf elt tg .nil vs ds ρ = .ok (.ow (.lst ys)) (backS ρ ρ' vs) ∧ P ρ' ∧ ys.length = ds.length ∧ ∀ y ∈ ys, Q y := by
  obtain ⟨ys, ρ', e, h1, h2, h3⟩ := lcL_inv (bd := bindT np tg) (tt := evT np cf .nil) (ee := evE np cf elt) (vs := vs) P Q (fun d ρ hp => by
    obtain ⟨s, ρ1, y, ρ2, a, b, c, d⟩ := h d ρ hp
    exact ⟨s :: ρ1, y, ρ2, a, rfl, b, c, d⟩) ds [] (wipeS ρ vs) hP (by simpa using hl)
  refine ⟨ys, ρ', ?_, h1, h2, h3⟩
  unfold lcS
  rw [hv, if_neg Bool.false_ne_true, e]
  simp
theorem rngD_len (i : Int) (n : Nat) : (rngD i n).length = n := by rw [rngD, List.length_map, List.length_range]
theorem word_ev (n : Nat) (x y z : Int) (k : Nat) (hk : k ≤ 8) : ∃ (cs : List Nat) (x' z' : Int), cs.length = k ∧ (∀ c ∈ cs, isL c = true) ∧
    lcS 1 (run code (n + 2)) (.call 17 (.cons (.slot 0) (.cons (.bi .list (.con (.str (Str.ofString "abcdefghijklmnopqrstuvwxyz")))) .nil))) (.tName 3) .nil [3] (rngD 0 k) [Dc x y z, .un, .un, .un, .un]
      = .ok (.ow (.lst ((cs.map fun c => (⟨#[c]⟩ : Str)).map D.str))) [Dc x' y z', .un, .un, .un, .un] := by
  obtain ⟨ys, ρ', e, ⟨x', z', rfl⟩, hl, hq⟩ := lcS_inv (np := 1) (cf := run code (n + 2)) (elt := .call 17 (.cons (.slot 0) (.cons (.bi .list (.con (.str (Str.ofString "abcdefghijklmnopqrstuvwxyz")))) .nil))) (tg := .tName 3) (vs := [3]) (ds := rngD 0 k) (ρ := [Dc x y z, .un, .un, .un, .un])
    (fun ρ => ∃ x z, ρ = [Dc x y z, .un, .un, .un, .un]) oneL rfl (by rw [rngD_len]; unfold maxLen; omega) ⟨x, z, rfl⟩ fun d ρ hp => by
      obtain ⟨x, z, rfl⟩ := hp
      have hlen : (LT.cps.toList.map fun c => D.str ⟨#[c]⟩).length = 26 := by rw [List.length_map]; decide
      obtain ⟨d', x1, z1, hd, e1⟩ := oneOf_ev n x y z (LT.cps.toList.map fun c => D.str ⟨#[c]⟩) (by omega) (by rw [hlen]; decide)
      obtain ⟨c, hc, rfl⟩ := List.mem_map.mp hd
      have hL : LT.length ≤ maxLen := by decide
      refine ⟨Dc x y z, [.un, .un, .fz d, .un], .str ⟨#[c]⟩, [Dc x1 y z1, .un, .un, .fz d, .un], rfl, ?_, ⟨c, decide_eq_true hc, rfl⟩, ⟨x1, z1, rfl⟩⟩
      simp only [LT] at e1 hL
      simp [hL, e1]
  obtain ⟨cs, h1, h2, h3⟩ := oneLs hq
  refine ⟨cs, x', z', by rw [h1, hl, rngD_len], h2, ?_⟩
  rw [e, h3]
  rfl
theorem app_len (x y : Str) : (x ++ y).length = x.length + y.length := by
  show (x.cps ++ y.cps).size = _
  rw [Array.size_append]
  rfl
theorem app_list (x y : Str) : (x ++ y).cps.toList = x.cps.toList ++ y.cps.toList := by
  show (x.cps ++ y.cps).toList = _
  rw [Array.toList_append]
theorem pl_true {cs : List Nat} (h1 : 1 ≤ cs.length) (h2 : cs.length ≤ 8) (h : ∀ c ∈ cs, isL c = true) : pl (.str ⟨cs.toArray⟩) = true := by
  show (decide (1 ≤ (⟨cs.toArray⟩ : Str).length) && decide ((⟨cs.toArray⟩ : Str).length ≤ 8) && cs.toArray.toList.all isL) = true
  rw [show (⟨cs.toArray⟩ : Str).length = cs.length from List.size_toArray, decide_eq_true h1, decide_eq_true h2]
  simpa using h
theorem pl_bad {x y : Str} {c : Nat} (h : c ∈ y.cps.toList) (hc : isL c = false) : pl (.str (x ++ y)) = false := by
  show (decide (1 ≤ (x ++ y).length) && decide ((x ++ y).length ≤ 8) && (x ++ y).cps.toList.all isL) = false
  rw [app_list]
  have : (x.cps.toList ++ y.cps.toList).all isL = false := by
    rw [List.all_eq_false]
    exact ⟨c, List.mem_append_right _ h, by simp [hc]⟩
  rw [this, Bool.and_false]
theorem pl_long {x y : Str} (h : 8 < x.length + y.length) : pl (.str (x ++ y)) = false := by
  show (decide (1 ≤ (x ++ y).length) && decide ((x ++ y).length ≤ 8) && (x ++ y).cps.toList.all isL) = false
  rw [app_len, decide_eq_false (show ¬ (x.length + y.length ≤ 8) by omega)]
  simp
theorem placesRight_ev (n : Nat) (x y z : Int) : ∃ (x' z' : Int), run code (n + 3) 24 [Dc x y z] = .ok (.fz (.bl true)) [Dc x' y z'] := by
  obtain ⟨v, x1, z1, hv, hv2, e1⟩ := roll_ev (n + 1) x y z (s := 8) (by decide) (by decide)
  obtain ⟨cs, x2, z2, hl, hL, e2⟩ := word_ev n x1 y z1 (1 + v).toNat (by omega)
  refine ⟨x2, z2, ?_⟩
  have h62 : -4611686018427387904 ≤ 1 + v ∧ 1 + v < 4611686018427387904 := by omega
  have hcs : cs.length ≤ maxLen := by unfold maxLen; omega
  have hjd : joinD (Str.ofString "") (.lst ((cs.map fun c => (⟨#[c]⟩ : Str)).map D.str)) = some (.str ⟨cs.toArray⟩) := by
    have z : (Str.ofString "").length = 0 := by decide
    rw [join_l, strs_map]
    show (if ((cs.map fun c => (⟨#[c]⟩ : Str)).map Str.length).sum + (cs.map fun c => (⟨#[c]⟩ : Str)).length * (Str.ofString "").length ≤ maxLen then _ else _) = _
    rw [sum_ones, z, Nat.mul_zero, Nat.add_zero, if_pos hcs, join_ones]
  generalize (cs.map fun c => (⟨#[c]⟩ : Str)).map D.str = ys at e2 hjd
  let w : Str := ⟨cs.toArray⟩
  have hw : w.length = cs.length := List.size_toArray
  have lq : (Str.ofString "qqqqqqqq").length = 8 := by decide
  have lA : (Str.ofString "A").length = 1 := by decide
  have ls : (Str.ofString " ").length = 1 := by decide
  have l1 : (Str.ofString "1").length = 1 := by decide
  have l0 : (Str.ofString "").length = 0 := by decide
  let near : List D := [.str w, .str (w ++ Str.ofString "qqqqqqqq"), .str (w ++ Str.ofString "A"), .str (Str.ofString ""), .str (w ++ Str.ofString " "), .tup [.str w], .non, .int 0, .bl true, .lst [.str w], .dct [] [], .str (w ++ Str.ofString "1")]
  have nok : ∀ d ∈ near, plOk d = true := by
    intro d hd
    simp only [near, List.mem_cons, List.not_mem_nil, or_false] at hd
    rcases hd with rfl | rfl | rfl | rfl | rfl | rfl | rfl | rfl | rfl | rfl | rfl | rfl <;> first | rfl | (simp only [plOk, app_len, hw, lq, lA, ls, l1, l0]; exact decide_eq_true (by omega))
  have el := lcS_map (np := 1) (cf := run code (n + 2)) (elt := .call 3 (.cons (.slot 4) .nil)) (tg := .tName 4) (vs := [4]) (ds := near) (ρ := [Dc x2 y z2, .fz (.str w), .fz (.lst near), .un, .un]) (fun d => .bl (pl d)) rfl (show 12 ≤ maxLen by decide) fun d hd => by
    have := isPlace_ev (n + 1) d (nok d hd)
    exact ⟨Dc x2 y z2, [.fz (.str w), .fz (.lst near), .un, .fz d], rfl, by simp [this], rfl⟩
  have ep : near.map (fun d => D.bl (pl d)) = [.bl true, .bl false, .bl false, .bl false, .bl false, .bl false, .bl false, .bl false, .bl false, .bl false, .bl false, .bl false] := by
    have p1 : pl (.str w) = true := pl_true (by omega) (by omega) hL
    have p2 : pl (.str (w ++ Str.ofString "qqqqqqqq")) = false := pl_long (by omega)
    have p3 : pl (.str (w ++ Str.ofString "A")) = false := pl_bad (c := 65) (by decide) (by decide)
    have p4 : pl (.str (w ++ Str.ofString " ")) = false := pl_bad (c := 32) (by decide) (by decide)
    have p5 : pl (.str (w ++ Str.ofString "1")) = false := pl_bad (c := 49) (by decide) (by decide)
    have p6 : pl (.str (Str.ofString "")) = false := by decide
    simp only [near, List.map_cons, List.map_nil, p1, p2, p3, p4, p5, p6]
    rfl
  rw [ep] at el
  have m1 : cs.length + 8 ≤ maxLen := by unfold maxLen; omega
  have m2 : cs.length + 1 ≤ maxLen := by unfold maxLen; omega
  have hw' : (⟨cs.toArray⟩ : Str).length = cs.length := hw
  simp only [near, w] at el
  have fin : eqD (.lst [.bl true, .bl false, .bl false, .bl false, .bl false, .bl false, .bl false, .bl false, .bl false, .bl false, .bl false, .bl false]) (.lst [.bl true, .bl false, .bl false, .bl false, .bl false, .bl false, .bl false, .bl false, .bl false, .bl false, .bl false, .bl false]) = some true := eqD_same rfl
  have frep : (List.replicate (Int.toNat 11) [D.bl false]).flatten = [.bl false, .bl false, .bl false, .bl false, .bl false, .bl false, .bl false, .bl false, .bl false, .bl false, .bl false] := rfl
  have i11 : (11 : Int).toNat = 11 := rfl
  have t1 : (12 : Nat) ≤ maxLen := by decide
  have t2 : (1 : Nat) ≤ maxLen := by decide
  have t3 : (11 : Nat) ≤ maxLen := by decide
  have t4 : (11 : Int) ≤ (maxLen : Int) := by decide
  rw [r24, runF_eq rfl]
  simp [c24, -join_l, e1, h62, e2, hjd, l0, hcs, m1, m2, hw', lq, lA, ls, l1, lstR, tupR, t1, t2, el, fin, frep, i11, t3, t4]
end K01

/-! K01p7: the law. -/
namespace K01
open PySem hiding run
open L2 PV
theorem eqD_bl {i j : Bool} : eqD (.bl i) (.bl j) = some (decide (i = j)) := by cases i <;> cases j <;> rfl
def fr : D → Bool
  | .tup [.int a, .int b] => decide (1 ≤ b) && decide (Nat.gcd a.natAbs b.natAbs = 1)
  | _ => false
/-- a pair that was drawn -/
def Dr (p : Int × Int) : Prop := 1 ≤ p.2 ∧ p.1.natAbs ≤ 40 ∧ p.2.natAbs ≤ 40
abbrev lo (p : Int × Int) : Int × Int := LO p.1 p.2
theorem Dr.rw {p : Int × Int} (h : Dr p) : Rw (lo p).1 (lo p).2 := by
  have h1 := LO_le (a := p.1) h.1
  obtain ⟨g, hg, h2, h3, h4⟩ := LO_spec (a := p.1) h.1
  have h5 := h.2.1
  have h6 := h.2.2
  exact ⟨h4, LO_low h.1, Nat.le_trans h1.1 h5, by show (LO p.1 p.2).2.natAbs ≤ 40; omega⟩
theorem pairs_ev (n : Nat) (x y z : Int) : ∃ (p q r : Int × Int) (x' z' : Int), Dr p ∧ Dr q ∧ Dr r ∧
    lcS 1 (run code (n + 3)) (.call 21 (.cons (.slot 0) .nil)) (.tName 9) .nil [9] (rngD 0 3) [Dc x y z, .un, .un, .un, .un, .un, .un, .un, .un, .un, .un]
      = .ok (.ow (.lst [Pp p, Pp q, Pp r])) [Dc x' y z', .un, .un, .un, .un, .un, .un, .un, .un, .un, .un] := by
  obtain ⟨ys, ρ', e, ⟨x', z', rfl⟩, hl, hq⟩ := lcS_inv (np := 1) (cf := run code (n + 3)) (elt := .call 21 (.cons (.slot 0) .nil)) (tg := .tName 9) (vs := [9]) (ds := rngD 0 3) (ρ := [Dc x y z, .un, .un, .un, .un, .un, .un, .un, .un, .un, .un])
    (fun ρ => ∃ x z, ρ = [Dc x y z, .un, .un, .un, .un, .un, .un, .un, .un, .un, .un]) (fun d => ∃ p, Dr p ∧ d = Pp p) rfl (by rw [rngD_len]; decide) ⟨x, z, rfl⟩ fun d ρ hp => by
      obtain ⟨x, z, rfl⟩ := hp
      obtain ⟨a, b, x1, z1, h1, h2, h3, e1⟩ := drawn_ev n x y z
      refine ⟨Dc x y z, [.un, .un, .un, .un, .un, .un, .un, .un, .fz d, .un], Pr a b, [Dc x1 y z1, .un, .un, .un, .un, .un, .un, .un, .un, .fz d, .un], rfl, ?_, ⟨(a, b), ⟨h1, h2, h3⟩, rfl⟩, ⟨x1, z1, rfl⟩⟩
      simp [e1]
  rw [rngD_len] at hl
  match ys, hl with
  | [d1, d2, d3], _ =>
    obtain ⟨p, hp, rfl⟩ := hq d1 (by simp)
    obtain ⟨q, hq', rfl⟩ := hq d2 (by simp)
    obtain ⟨r, hr, rfl⟩ := hq d3 (by simp)
    exact ⟨p, q, r, x', z', hp, hq', hr, by rw [e]; rfl⟩
theorem lt64 {k : Int} (h : k.natAbs ≤ 40) : k < 2 ^ 64 := by omega
theorem fraction_Dr (n : Nat) {p : Int × Int} (h : Dr p) : run code (n + 4) 7 [I p.1, I p.2] = .ok (.fz (Pp (lo p))) [I p.1, I p.2] := fraction_LO n p.1 p.2 (Nat.lt_of_le_of_lt h.2.1 (by decide)) h.1 (lt64 h.2.2)
theorem lowest_Dr (n : Nat) {p : Int × Int} (h : Dr p) : run code (n + 1) 18 [I p.1, I p.2] = .ok (.fz (Pp (lo p))) [I p.1, I p.2] := lowest_LO n p.1 p.2 h.1 (lt64 h.2.2)
abbrev loD : D → D
  | .tup [.int a, .int b] => Pp (LO a b)
  | d => d
section
variable (n : Nat) (x y z : Int) {p q r : Int × Int}
theorem rows_lc {p q r : Int × Int} (hp : Dr p) (hq : Dr q) (hr : Dr r) : lcS 1 (run code (n + 4)) (.call 7 (.cons (.slot 5) (.cons (.slot 6) .nil))) (.tTup (.cons (.tName 5) (.cons (.tName 6) .nil))) .nil [5, 6] [Pp p, Pp q, Pp r] [Dc x y z, .fz (.lst [Pp p, Pp q, Pp r]), .un, .un, .un, .un, .un, .un, .un, .un, .un]
      = .ok (.ow (.lst [Pp (lo p), Pp (lo q), Pp (lo r)])) [Dc x y z, .fz (.lst [Pp p, Pp q, Pp r]), .un, .un, .un, .un, .un, .un, .un, .un, .un] :=
  lcS_map loD rfl (show 3 ≤ maxLen by decide) fun d hd => by
    obtain ⟨t, ht, rfl⟩ : ∃ t, Dr t ∧ d = Pp t := by
      simp only [List.mem_cons, List.not_mem_nil, or_false] at hd
      rcases hd with rfl | rfl | rfl
      · exact ⟨p, hp, rfl⟩
      · exact ⟨q, hq, rfl⟩
      · exact ⟨r, hr, rfl⟩
    refine ⟨Dc x y z, [.fz (.lst [Pp p, Pp q, Pp r]), .un, .un, .un, I t.1, I t.2, .un, .un, .un, .un], rfl, ?_, rfl⟩
    simp [fraction_Dr n ht]
theorem low_lc {p q r : Int × Int} (hp : Dr p) (hq : Dr q) (hr : Dr r) (s : Sl) : lcS 1 (run code (n + 1)) (.call 18 (.cons (.slot 5) (.cons (.slot 6) .nil))) (.tTup (.cons (.tName 5) (.cons (.tName 6) .nil))) .nil [5, 6] [Pp p, Pp q, Pp r] [Dc x y z, .fz (.lst [Pp p, Pp q, Pp r]), s, .un, .un, .un, .un, .un, .un, .un, .un]
      = .ok (.ow (.lst [Pp (lo p), Pp (lo q), Pp (lo r)])) [Dc x y z, .fz (.lst [Pp p, Pp q, Pp r]), s, .un, .un, .un, .un, .un, .un, .un, .un] :=
  lcS_map loD rfl (show 3 ≤ maxLen by decide) fun d hd => by
    obtain ⟨t, ht, rfl⟩ : ∃ t, Dr t ∧ d = Pp t := by
      simp only [List.mem_cons, List.not_mem_nil, or_false] at hd
      rcases hd with rfl | rfl | rfl
      · exact ⟨p, hp, rfl⟩
      · exact ⟨q, hq, rfl⟩
      · exact ⟨r, hr, rfl⟩
    refine ⟨Dc x y z, [.fz (.lst [Pp p, Pp q, Pp r]), s, .un, .un, I t.1, I t.2, .un, .un, .un, .un], rfl, ?_, rfl⟩
    simp [lowest_Dr n ht]
theorem filter_false {α : Type} : ∀ l : List α, l.filter (fun _ => false) = []
  | [] => rfl
  | x :: l => by rw [List.filter_cons_of_neg (by simp), filter_false l]
theorem bad_lc (s1 : Sl) {p q r : Int × Int} (hp : Rw p.1 p.2) (hq : Rw q.1 q.2) (hr : Rw r.1 r.2) : lcS 1 (run code (n + 1)) (.slot 5) (.tName 5) (.tNot (.tVal (.call 20 (.cons (.slot 5) .nil)))) [5] [Pp p, Pp q, Pp r] [Dc x y z, s1, .fz (.lst [Pp p, Pp q, Pp r]), .un, .un, .un, .un, .un, .un, .un, .un]
      = .ok (.ow (.lst [])) [Dc x y z, s1, .fz (.lst [Pp p, Pp q, Pp r]), .un, .un, .un, .un, .un, .un, .un, .un] := by
  have e := lcS_pure (np := 1) (cf := run code (n + 1)) (elt := .slot 5) (tg := .tName 5) (ifs := .tNot (.tVal (.call 20 (.cons (.slot 5) .nil)))) (vs := [5]) (ds := [Pp p, Pp q, Pp r]) (ρ := [Dc x y z, s1, .fz (.lst [Pp p, Pp q, Pp r]), .un, .un, .un, .un, .un, .un, .un, .un]) (fun _ => false) (fun d => d) rfl (show 3 ≤ maxLen by decide) fun d hd => by
    obtain ⟨t, ht, rfl⟩ : ∃ t : Int × Int, Rw t.1 t.2 ∧ d = Pp t := by
      simp only [List.mem_cons, List.not_mem_nil, or_false] at hd
      rcases hd with rfl | rfl | rfl
      · exact ⟨p, hp, rfl⟩
      · exact ⟨q, hq, rfl⟩
      · exact ⟨r, hr, rfl⟩
    refine ⟨[Dc x y z, s1, .fz (.lst [Pp p, Pp q, Pp r]), .un, .un, .fz (Pp t), .un, .un, .un, .un, .un], rfl, ?_, fun z => (by cases z), rfl⟩
    simp [isLowest_ev n ht.pos ht.sa ht.sb, ht.low]
  rw [e, filter_false]
  rfl
abbrev bc23 : C := .cons (.sIf (.tOr (.tVal (.cmp .NotEq (.call 10 (.cons (.slot 5) (.cons (.slot 6) .nil))) (.call 19 (.cons (.slot 5) (.cons (.slot 6) .nil))))) (.tAnd (.tVal (.call 10 (.cons (.slot 5) (.cons (.slot 6) .nil)))) (.tVal (.call 10 (.cons (.slot 6) (.cons (.slot 5) .nil)))))) (.cons (.sRet (.con (.bl false))) .nil) .nil) .nil
theorem cmp_step (s1 s2 : Sl) (ds : List D) (u w : Sl) {p q : Int × Int} (hp : Rw p.1 p.2) (hq : Rw q.1 q.2) : forS 1 (run code (n + 5)) (.tTup (.cons (.tName 5) (.cons (.tName 6) .nil))) bc23 (.tup [Pp p, Pp q] :: ds) [Dc x y z, s1, s2, .un, .un, u, w, .un, .un, .un, .un]
      = forS 1 (run code (n + 5)) (.tTup (.cons (.tName 5) (.cons (.tName 6) .nil))) bc23 ds [Dc x y z, s1, s2, .un, .un, .fz (Pp p), .fz (Pp q), .un, .un, .un, .un] := by
  have e1 := isLower_ev n hp.frac hq.frac
  have e2 := isLower_ev n hq.frac hp.frac
  have e3 := less_ev (n + 4) p.1 p.2 q.1 q.2 (mulOk_l (lt20 hp.sa (by decide))) (mulOk_l (lt20 hq.sa (by decide)))
  have e4 : p.1 * q.2 < q.1 * p.2 → ¬ (q.1 * p.2 < p.1 * q.2) := by omega
  unfold forS
  rw [forL]
  simp [e1, e2, e3, eqD_bl]
  by_cases h : p.1 * q.2 < q.1 * p.2
  · simp [h, e4 h]
  · simp [h]
theorem sums_lc (s1 : Sl) (u w : Sl) {p q r : Int × Int} (hp : Rw p.1 p.2) (hq : Rw q.1 q.2) (hr : Rw r.1 r.2) : lcS 1 (run code (n + 6)) (.slot 10) (.tName 10) (.tNot (.tVal (.call1 22 (.slc (.slot 2) .nil (.slot 10))))) [10] (rngD 0 4) [Dc x y z, s1, .fz (.lst [Pp p, Pp q, Pp r]), .un, .un, u, w, .un, .un, .un, .un]
      = .ok (.ow (.lst [])) [Dc x y z, s1, .fz (.lst [Pp p, Pp q, Pp r]), .un, .un, u, w, .un, .un, .un, .un] := by
  have e := lcS_pure (np := 1) (cf := run code (n + 6)) (elt := .slot 10) (tg := .tName 10) (ifs := .tNot (.tVal (.call1 22 (.slc (.slot 2) .nil (.slot 10))))) (vs := [10]) (ds := rngD 0 4) (ρ := [Dc x y z, s1, .fz (.lst [Pp p, Pp q, Pp r]), .un, .un, u, w, .un, .un, .un, .un]) (fun _ => false) (fun d => d) rfl (by rw [rngD_len]; decide) fun d hd => by
    obtain ⟨k, hk, rfl⟩ := List.mem_map.mp hd
    have hk := List.mem_range.mp hk
    have hk : k = 0 ∨ k = 1 ∨ k = 2 ∨ k = 3 := by omega
    refine ⟨[Dc x y z, s1, .fz (.lst [Pp p, Pp q, Pp r]), .un, .un, u, w, .un, .un, .un, I (0 + (k : Int))], rfl, ?_, fun z => (by cases z), rfl⟩
    rcases hk with rfl | rfl | rfl | rfl
    · obtain ⟨s, e⟩ := sumsRight_ev n [] (by decide) (by simp)
      simp at e
      simp [cutD, e]
    · obtain ⟨s, e⟩ := sumsRight_ev n [p] (by simp) (by simp [hp])
      simp at e
      simp [cutD, e]
    · obtain ⟨s, e⟩ := sumsRight_ev n [p, q] (by simp) (by simp [hp, hq])
      simp at e
      simp [cutD, e]
    · obtain ⟨s, e⟩ := sumsRight_ev n [p, q, r] (by simp) (by simp [hp, hq, hr])
      simp at e
      simp [cutD, e]
  rw [e, filter_false]
  rfl
end
end K01

/-! K01p8: the law. -/
namespace K01
open PySem hiding run
open L2 PV
section
variable (n : Nat) (x y z : Int)
theorem fr_3 (a b c : D) : run code (n + 3) 5 [.fz (.tup [a, b, c])] = .ok (.fz (.bl false)) [.fz (.tup [a, b, c])] := by
  rw [r5, runF_eq rfl]
  simp [c5, isiD, eqD_int]
theorem fr_l (l : List D) : run code (n + 3) 5 [.fz (.lst l)] = .ok (.fz (.bl false)) [.fz (.lst l)] := by
  rw [r5, runF_eq rfl]
  simp [c5, isiD, eqD_int]
theorem fr_n : run code (n + 3) 5 [.fz .non] = .ok (.fz (.bl false)) [.fz .non] := by
  rw [r5, runF_eq rfl]
  simp [c5, isiD, eqD_int]
theorem fr_i (i : Int) : run code (n + 3) 5 [I i] = .ok (.fz (.bl false)) [I i] := by
  rw [r5, runF_eq rfl]
  simp [c5, isiD, eqD_int]
theorem fr_bi (b : Bool) (i : Int) : run code (n + 3) 5 [.fz (.tup [.bl b, .int i])] = .ok (.fz (.bl false)) [.fz (.tup [.bl b, .int i])] := by
  rw [r5, runF_eq rfl]
  simp [c5, isiD, eqD_int, isInteger_bl]
theorem fr_ib (b : Bool) (i : Int) : run code (n + 3) 5 [.fz (.tup [.int i, .bl b])] = .ok (.fz (.bl false)) [.fz (.tup [.int i, .bl b])] := by
  rw [r5, runF_eq rfl]
  simp [c5, isiD, eqD_int, isInteger_int, isNumber_bl]
abbrev nearL (p q : Int × Int) : List D := [Pp q, Pp p, Pr q.1 0, Pr q.1 (-1), .tup [.int q.1, .int q.2, .int 1], .lst [.int q.1, .int q.2], .tup [.bl true, .int 2], .tup [.int 1, .bl true], .non, .int 3]
theorem near_lc {p q : Int × Int} (hp : Dr p) (hq : Rw q.1 q.2) (s1 s2 s3 s4 u w s7 s8 : Sl) : lcS 1 (run code (n + 3)) (.call 5 (.cons (.slot 5) .nil)) (.tName 5) .nil [5] (nearL p q) [Dc x y z, s1, s2, s3, s4, .fz u', w, s7, s8, .un, .un]
      = .ok (.ow (.lst [.bl true, .bl (decide (Nat.gcd p.1.natAbs p.2.natAbs = 1)), .bl false, .bl false, .bl false, .bl false, .bl false, .bl false, .bl false, .bl false])) [Dc x y z, s1, s2, s3, s4, .fz u', w, s7, s8, .un, .un] := by
  have e := lcS_map (np := 1) (cf := run code (n + 3)) (elt := .call 5 (.cons (.slot 5) .nil)) (tg := .tName 5) (vs := [5]) (ds := nearL p q) (ρ := [Dc x y z, s1, s2, s3, s4, .fz u', w, s7, s8, .un, .un]) (fun d => .bl (fr d)) rfl (show 10 ≤ maxLen by decide) fun d hd => by
    have hd' : run code (n + 3) 5 [.fz d] = .ok (.fz (.bl (fr d))) [.fz d] := by
      have b1 : q.1.natAbs < whlMax := lt30 hq.sa (by decide)
      have b2 : p.1.natAbs < whlMax := lt30 hp.2.1 (by decide)
      simp only [nearL, List.mem_cons, List.not_mem_nil, or_false] at hd
      rcases hd with rfl | rfl | rfl | rfl | rfl | rfl | rfl | rfl | rfl | rfl
      · exact isFraction_pair n _ _ b1
      · exact isFraction_pair n _ _ b2
      · exact isFraction_pair n _ _ b1
      · exact isFraction_pair n _ _ b1
      · exact fr_3 n _ _ _
      · exact fr_l n _
      · exact fr_bi n _ _
      · exact fr_ib n _ _
      · exact fr_n n
      · exact fr_i n _
    refine ⟨Dc x y z, [s1, s2, s3, s4, .fz d, w, s7, s8, .un, .un], rfl, ?_, rfl⟩
    simp [hd']
  rw [e]
  have h1 : fr (Pp q) = true := by simp [fr, hq.pos, hq.low]
  have h2 : fr (Pp p) = decide (Nat.gcd p.1.natAbs p.2.natAbs = 1) := by simp [fr, hp.1]
  simp only [nearL, List.map_cons, List.map_nil, h1, h2]
  rfl
theorem LO_self {k : Int} (h : 1 ≤ k) : LO k k = (1, 1) := by
  have := LO_scale (a := 1) (b := 1) (k := k) (by decide) h
  rw [Int.one_mul] at this
  rw [this]
  decide
theorem right_ev : ∃ (x' z' : Int), run code (n + 8) 23 [Dc x y z] = .ok (.fz (.bl true)) [Dc x' y z'] := by
  obtain ⟨p, q, r, x1, z1, hp, hq, hr, e1⟩ := pairs_ev (n + 4) x y z
  obtain ⟨v, x2, z2, hv, hv2, e2⟩ := roll_ev (n + 6) x1 y z1 (s := 5) (by decide) (by decide)
  obtain ⟨w, x3, z3, hw, hw2, e3⟩ := roll_ev (n + 6) x2 y z2 (s := 1000) (by decide) (by decide)
  refine ⟨x3, z3, ?_⟩
  have f1 := rows_lc (n + 3) x1 y z1 hp hq hr
  have f2 := low_lc (n + 6) x1 y z1 hp hq hr (.ow (.lst [Pp (lo p), Pp (lo q), Pp (lo r)]))
  have g1 : eqD (.lst [Pp (lo p), Pp (lo q), Pp (lo r)]) (.lst [Pp (lo p), Pp (lo q), Pp (lo r)]) = some true := eqD_same rfl
  have f3 := bad_lc (n + 6) x1 y z1 (.fz (.lst [Pp p, Pp q, Pp r])) hp.rw hq.rw hr.rw
  have g2 : eqD (.lst []) (.lst []) = some true := eqD_same rfl
  have k1 := cmp_step (n + 2) x1 y z1 (.fz (.lst [Pp p, Pp q, Pp r])) (.fz (.lst [Pp (lo p), Pp (lo q), Pp (lo r)])) [.tup [Pp (lo q), Pp (lo r)], .tup [Pp (lo r), Pp (lo r)]] .un .un hp.rw hq.rw
  rw [cmp_step (n + 2) x1 y z1 (.fz (.lst [Pp p, Pp q, Pp r])) (.fz (.lst [Pp (lo p), Pp (lo q), Pp (lo r)])) [.tup [Pp (lo r), Pp (lo r)]] _ _ hq.rw hr.rw, cmp_step (n + 2) x1 y z1 (.fz (.lst [Pp p, Pp q, Pp r])) (.fz (.lst [Pp (lo p), Pp (lo q), Pp (lo r)])) [] _ _ hr.rw hr.rw] at k1
  have k2 := k1.trans (show _ = O.next [Dc x1 y z1, .fz (.lst [Pp p, Pp q, Pp r]), .fz (.lst [Pp (lo p), Pp (lo q), Pp (lo r)]), .un, .un, .fz (Pp (lo r)), .fz (Pp (lo r)), .un, .un, .un, .un] from rfl)
  have f4 := sums_lc (n + 1) x1 y z1 (.fz (.lst [Pp p, Pp q, Pp r])) (.fz (Pp (lo r))) (.fz (Pp (lo r))) hp.rw hq.rw hr.rw
  have m1 : mulOk p.1 (2 + v) = true := mulOk_r (by omega)
  have m2 : mulOk p.2 (2 + v) = true := mulOk_r (by omega)
  have s1 := mul_small hp.2.1 (show (2 + v).natAbs ≤ 6 by omega)
  have s2 := mul_small hp.2.2 (show (2 + v).natAbs ≤ 6 by omega)
  have e4 := fraction_LO (n + 3) (p.1 * (2 + v)) (p.2 * (2 + v)) (lt30 s1 (by decide)) (mul_pos1 hp.1 (by omega)) (by omega)
  rw [LO_scale hp.1 (by omega)] at e4
  have e5 := fraction_LO (n + 3) (100000000000 + w) (100000000000 + w) (by unfold whlMax; omega) (by omega) (by omega)
  rw [LO_self (by omega)] at e5
  have pw : powOk 10 11 = true := by decide
  have g3 : eqD (Pp (lo p)) (Pp (lo p)) = some true := eqD_same rfl
  have g4 : eqD (Pr 1 1) (Pr 1 1) = some true := eqD_same rfl
  have f5 := near_lc (n + 4) x3 y z3 hp hp.rw (u' := Pp (lo r)) (.fz (.lst [Pp p, Pp q, Pp r])) (.fz (.lst [Pp (lo p), Pp (lo q), Pp (lo r)])) (.fz (.lst (nearL p (lo p)))) (.ow (.lst [.bl true, .bl (decide (Nat.gcd p.1.natAbs p.2.natAbs = 1)), .bl false, .bl false, .bl false, .bl false, .bl false, .bl false, .bl false, .bl false])) .un (.fz (Pp (lo r))) (I (2 + v)) (I (100000000000 + w))
  have e6 := isLowest_ev (n + 6) hp.1 hp.2.1 hp.2.2
  have g5 : eqD (.lst [.bl true, .bl (decide (Nat.gcd p.1.natAbs p.2.natAbs = 1)), .bl false, .bl false, .bl false, .bl false, .bl false, .bl false, .bl false, .bl false]) (.lst [.bl true, .bl (decide (Nat.gcd p.1.natAbs p.2.natAbs = 1)), .bl false, .bl false, .bl false, .bl false, .bl false, .bl false, .bl false, .bl false]) = some true := eqD_same rfl
  have e7 := isFraction_pair (n + 4) 0 2 (by decide)
  have e7' : (decide ((1 : Int) ≤ 2) && decide (Nat.gcd (0 : Int).natAbs (2 : Int).natAbs = 1)) = false := by decide
  rw [e7'] at e7
  have frep : (List.replicate 8 [D.bl false]).flatten = [.bl false, .bl false, .bl false, .bl false, .bl false, .bl false, .bl false, .bl false] := rfl
  rw [r23, runF_eq rfl]
  generalize decide (Nat.gcd p.1.natAbs p.2.natAbs = 1) = bb at *
  simp only [nearL] at f5
  simp [c23, e1, f1, f2, g1, f3, g2, k2, f4, e2, e3, pw, m1, m2, e4, e5, g3, g4, f5, e6, g5, e7, frep, lstR, tupR, maxLen]
end
theorem evAs_neg {np : Nat} {cf : Nat → List Sl → CRes} {a es : C} {s : Sl} {ρ : Rho} : evAs np cf (.cons (.neg a) es) (s :: ρ) = (evE np cf (.neg a) (s :: ρ)).bind fun r ρ => (toFz ρ r).bind fun d ρ => (evAs np cf es ρ).bind (consA (.val d)) := rfl
abbrev bc25 : C := .cons (.sAsg (.tName 3) (.call 15 (.cons (.slot 0) (.cons (.slot 1) .nil)))) (.cons (.sIf (.tOr (.tNot (.tVal (.call 23 (.cons (.slot 3) .nil)))) (.tNot (.tVal (.call 24 (.cons (.slot 3) .nil))))) (.cons (.sRet (.con (.bl false))) .nil) .nil) .nil)
theorem law_loop (n : Nat) (ns : List Int) : ∀ (ks : List Nat) (x s : Sl), ∃ x' s', forS 1 (run code (n + 8)) (.tName 1) bc25 (ks.map fun (k : Nat) => D.int ((0 : Int) + (k : Int))) [.fz (.scr ns), x, .un, s] = .next [.fz (.scr ns), x', .un, s']
  | [], x, s => ⟨x, s, rfl⟩
  | k :: ks, x, s => by
    obtain ⟨a, b, c, e1⟩ := dice_ev (n + 7) ns k
    obtain ⟨a1, c1, e2⟩ := right_ev n a b c
    obtain ⟨a2, c2, e3⟩ := placesRight_ev (n + 5) a1 b c1
    obtain ⟨x', s', ih⟩ := law_loop n ns ks (I k) (Dc a2 b c2)
    refine ⟨x', s', ?_⟩
    unfold forS at ih ⊢
    rw [List.map_cons, forL]
    simp only [Int.zero_add] at ih ⊢
    simp [e1, e2, e3]
    exact ih
theorem Rw_half : Rw 1 2 := ⟨by decide, by decide, by decide, by decide⟩
theorem Rw_23 : Rw 2 3 := ⟨by decide, by decide, by decide, by decide⟩
theorem law_ev (n : Nat) (ns : List Int) : ∃ ps', run code (n + 9) 25 [.fz (.scr ns)] = .ok (.fz (.bl true)) ps' := by
  let m : Int := if (if (ns.length : Int) < 8 then (ns.length : Int) else 8) > 1 then (if (ns.length : Int) < 8 then (ns.length : Int) else 8) else 1
  have hm : 1 ≤ m ∧ m ≤ 8 := by show 1 ≤ ite _ _ _ ∧ ite _ _ _ ≤ 8; omega
  obtain ⟨x', s', e⟩ := law_loop n ns (List.range m.toNat) .un .un
  have e : forS 1 (run code (n + 8)) (.tName 1) bc25 (rngD 0 m.toNat) [.fz (.scr ns), .un, .un, .un] = .next [.fz (.scr ns), x', .un, s'] := e
  have h62 : -4611686018427387904 ≤ m ∧ m < 4611686018427387904 := by omega
  have em : (if (if (ns.length : Int) < 8 then (ns.length : Int) else 8) > 1 then (if (ns.length : Int) < 8 then (ns.length : Int) else 8) else 1) = m := rfl
  have a1 := fraction_LO (n + 4) 6 4 (by decide) (by decide) (by decide)
  have a2 := fraction_LO (n + 4) (-2) 6 (by decide) (by decide) (by decide)
  have a3 := fraction_LO (n + 4) 0 7 (by decide) (by decide) (by decide)
  have a4 := added_ev (n + 3) [(1, 2), (2, 3)] (by decide) (by intro p hp; simp at hp; rcases hp with rfl | rfl; exact Rw_half; exact Rw_23)
  have a5 := multiplied_ev (n + 3) [(1, 2), (2, 3)] (by decide) (by intro p hp; simp at hp; rcases hp with rfl | rfl; exact Rw_half; exact Rw_23)
  rw [show LO 6 4 = (3, 2) by decide] at a1
  rw [show LO (-2) 6 = (-1, 3) by decide] at a2
  rw [show LO 0 7 = (0, 1) by decide] at a3
  rw [show LO (sums [(1, 2), (2, 3)] (0, 1)).1 (sums [(1, 2), (2, 3)] (0, 1)).2 = (7, 6) by decide] at a4
  rw [show LO (prods [(1, 2), (2, 3)] (1, 1)).1 (prods [(1, 2), (2, 3)] (1, 1)).2 = (1, 3) by decide] at a5
  simp only [List.map_cons, List.map_nil] at a4 a5
  have g : eqD (.lst [Pr 3 2, Pr (-1) 3, Pr 0 1, Pr 7 6, Pr 1 3]) (.lst [Pr 3 2, Pr (-1) 3, Pr 0 1, Pr 7 6, Pr 1 3]) = some true := eqD_same rfl
  refine ⟨[.fz (.scr ns)], ?_⟩
  rw [r25, runF_eq rfl]
  simp only [c25, List.replicate, List.cons_append, List.nil_append, evSs_cons, evS_for, evI_rng1, evE_bi2, evE_bi, evE_con, evE_slot, R.bind_ok, List.getElem?_cons_zero, slotR_fz, der_fz, Option.bind_some, bi_lenr, ofO_some, bi2R_int, Bool.false_eq_true, if_false, if_true, em, rng1R_int, Int.reducePow, Int.reduceNeg, h62, and_self, bindO_ok, bindN_next, e]
  simp [e, evAs_neg, a1, a2, a3, a4, a5, g, eqD_int, callSR, lstR, tupR, maxLen]
theorem law_true (ns : List Int) (h : ns.length ≤ 63) : ∃ ps', run code 30 25 [.fz (.scr ns)] = .ok (.fz (.bl true)) ps' := law_ev 21 ns
end K01

namespace K01
open PySem L2 PV
section
variable {P : Program} {w : World} {K : PySem.W.Frag} {mg : Str → Option Value} {base : Heap}
/-- what the top has written -/
structure Hd (K : PySem.W.Frag) (mg : Str → Option Value) : Prop where
  bl : Blts mg bltN
  f0 : ∃ f fd, Fun K "is_integer" "is_integer" (topS 7) f fd ∧ mg "is_integer" = some (.ref f) ∧ Binds K fd ["value"] []
  f1 : ∃ f fd, Fun K "is_number" "is_number" (topS 8) f fd ∧ mg "is_number" = some (.ref f) ∧ Binds K fd ["value"] []
  f2 : ∃ f fd, Fun K "require_many" "require_many" (topS 9) f fd ∧ mg "require_many" = some (.ref f) ∧ Binds K fd ["value"] []
  f3 : ∃ f fd, Fun K "is_place" "is_place" (topS 10) f fd ∧ mg "is_place" = some (.ref f) ∧ Binds K fd ["value"] []
  f4 : ∃ f fd, Fun K "divisor_of" "divisor_of" (topS 11) f fd ∧ mg "divisor_of" = some (.ref f) ∧ Binds K fd ["one", "other"] []
  f5 : ∃ f fd, Fun K "is_fraction" "is_fraction" (topS 12) f fd ∧ mg "is_fraction" = some (.ref f) ∧ Binds K fd ["value"] []
  f6 : ∃ f fd, Fun K "fraction_in" "fraction_in" (topS 13) f fd ∧ mg "fraction_in" = some (.ref f) ∧ Binds K fd ["numerator", "denominator"] []
  f7 : ∃ f fd, Fun K "fraction" "fraction" (topS 14) f fd ∧ mg "fraction" = some (.ref f) ∧ Binds K fd ["numerator", "denominator"] []
  f8 : ∃ f fd, Fun K "require_fractions" "require_fractions" (topS 15) f fd ∧ mg "require_fractions" = some (.ref f) ∧ Binds K fd ["values"] []
  f9 : ∃ f fd, Fun K "is_less" "is_less" (topS 16) f fd ∧ mg "is_less" = some (.ref f) ∧ Binds K fd ["one", "other"] []
  f10 : ∃ f fd, Fun K "is_lower" "is_lower" (topS 17) f fd ∧ mg "is_lower" = some (.ref f) ∧ Binds K fd ["one", "other"] []
  f11 : ∃ f fd, Fun K "sum_in" "sum_in" (topS 18) f fd ∧ mg "sum_in" = some (.ref f) ∧ Binds K fd ["one", "other"] []
  f12 : ∃ f fd, Fun K "added" "added" (topS 19) f fd ∧ mg "added" = some (.ref f)
  f13 : ∃ f fd, Fun K "product_in" "product_in" (topS 20) f fd ∧ mg "product_in" = some (.ref f) ∧ Binds K fd ["one", "other"] []
  f14 : ∃ f fd, Fun K "multiplied" "multiplied" (topS 21) f fd ∧ mg "multiplied" = some (.ref f)
  f15 : ∃ f fd, Fun K "_law_dice" "_law_dice" (topS 23) f fd ∧ mg "_law_dice" = some (.ref f) ∧ Binds K fd ["_law_script", "_law_at"] []
  f16 : ∃ f fd, Fun K "_law_roll" "_law_roll" (topS 24) f fd ∧ mg "_law_roll" = some (.ref f) ∧ Binds K fd ["_law_dice_here", "_law_total"] []
  f17 : ∃ f fd, Fun K "_law_one_of" "_law_one_of" (topS 25) f fd ∧ mg "_law_one_of" = some (.ref f) ∧ Binds K fd ["_law_dice_here", "_law_items"] []
  f18 : ∃ f fd, Fun K "_law_lowest" "_law_lowest" (topS 26) f fd ∧ mg "_law_lowest" = some (.ref f) ∧ Binds K fd ["_law_numerator", "_law_denominator"] []
  f19 : ∃ f fd, Fun K "_law_less" "_law_less" (topS 27) f fd ∧ mg "_law_less" = some (.ref f) ∧ Binds K fd ["_law_one", "_law_other"] []
  f20 : ∃ f fd, Fun K "_law_is_lowest" "_law_is_lowest" (topS 28) f fd ∧ mg "_law_is_lowest" = some (.ref f) ∧ Binds K fd ["_law_one"] []
  f21 : ∃ f fd, Fun K "_law_drawn" "_law_drawn" (topS 29) f fd ∧ mg "_law_drawn" = some (.ref f) ∧ Binds K fd ["_law_dice_here"] []
  f22 : ∃ f fd, Fun K "_law_sums_right" "_law_sums_right" (topS 30) f fd ∧ mg "_law_sums_right" = some (.ref f) ∧ Binds K fd ["_law_rows"] []
  f23 : ∃ f fd, Fun K "_law_right" "_law_right" (topS 31) f fd ∧ mg "_law_right" = some (.ref f) ∧ Binds K fd ["_law_dice_here"] []
  f24 : ∃ f fd, Fun K "_law_places_right" "_law_places_right" (topS 32) f fd ∧ mg "_law_places_right" = some (.ref f) ∧ Binds K fd ["_law_dice_here"] []
  f25 : ∃ f fd, Fun K "law" "law" (topS 33) f fd ∧ mg "law" = some (.ref f) ∧ Binds K fd ["_law_script"] []
  g_LETTERS : ∃ t, mg "LETTERS" = some (.str (Str.ofString "abcdefghijklmnopqrstuvwxyz") t)
  g_MAX_LETTERS : ∃ t, mg "MAX_LETTERS" = some (.int 8 t)
structure All (P : Program) (w : World) (K : PySem.W.Frag) (mg : Str → Option Value) (base : Heap) (n : Nat) : Prop where
  c0 : Callee P w K mg base n "is_integer" 1 (PV.run code n 0)
  c1 : Callee P w K mg base n "is_number" 1 (PV.run code n 1)
  c2 : Callee P w K mg base n "require_many" 1 (PV.run code n 2)
  c3 : Callee P w K mg base n "is_place" 1 (PV.run code n 3)
  c4 : Callee P w K mg base n "divisor_of" 2 (PV.run code n 4)
  c5 : Callee P w K mg base n "is_fraction" 1 (PV.run code n 5)
  c6 : Callee P w K mg base n "fraction_in" 2 (PV.run code n 6)
  c7 : Callee P w K mg base n "fraction" 2 (PV.run code n 7)
  c8 : Callee P w K mg base n "require_fractions" 1 (PV.run code n 8)
  c9 : Callee P w K mg base n "is_less" 2 (PV.run code n 9)
  c10 : Callee P w K mg base n "is_lower" 2 (PV.run code n 10)
  c11 : Callee P w K mg base n "sum_in" 2 (PV.run code n 11)
  c12 : CalleeS P w K mg base n "added" (PV.run code n 12)
  c13 : Callee P w K mg base n "product_in" 2 (PV.run code n 13)
  c14 : CalleeS P w K mg base n "multiplied" (PV.run code n 14)
  c15 : Callee P w K mg base n "_law_dice" 2 (PV.run code n 15)
  c16 : Callee P w K mg base n "_law_roll" 2 (PV.run code n 16)
  c17 : Callee P w K mg base n "_law_one_of" 2 (PV.run code n 17)
  c18 : Callee P w K mg base n "_law_lowest" 2 (PV.run code n 18)
  c19 : Callee P w K mg base n "_law_less" 2 (PV.run code n 19)
  c20 : Callee P w K mg base n "_law_is_lowest" 1 (PV.run code n 20)
  c21 : Callee P w K mg base n "_law_drawn" 1 (PV.run code n 21)
  c22 : Callee P w K mg base n "_law_sums_right" 1 (PV.run code n 22)
  c23 : Callee P w K mg base n "_law_right" 1 (PV.run code n 23)
  c24 : Callee P w K mg base n "_law_places_right" 1 (PV.run code n 24)
  c25 : Callee P w K mg base n "law" 1 (PV.run code n 25)
theorem all_n (T : Hd K mg) : ∀ n, All P w K mg base n
  | 0 => {
      c0 := let ⟨f, fd, F, g, b⟩ := T.f0; ⟨f, fd, _, g, F.kp, b, zeroF rfl⟩
      c1 := let ⟨f, fd, F, g, b⟩ := T.f1; ⟨f, fd, _, g, F.kp, b, zeroF rfl⟩
      c2 := let ⟨f, fd, F, g, b⟩ := T.f2; ⟨f, fd, _, g, F.kp, b, zeroF rfl⟩
      c3 := let ⟨f, fd, F, g, b⟩ := T.f3; ⟨f, fd, _, g, F.kp, b, zeroF rfl⟩
      c4 := let ⟨f, fd, F, g, b⟩ := T.f4; ⟨f, fd, _, g, F.kp, b, zeroF rfl⟩
      c5 := let ⟨f, fd, F, g, b⟩ := T.f5; ⟨f, fd, _, g, F.kp, b, zeroF rfl⟩
      c6 := let ⟨f, fd, F, g, b⟩ := T.f6; ⟨f, fd, _, g, F.kp, b, zeroF rfl⟩
      c7 := let ⟨f, fd, F, g, b⟩ := T.f7; ⟨f, fd, _, g, F.kp, b, zeroF rfl⟩
      c8 := let ⟨f, fd, F, g, b⟩ := T.f8; ⟨f, fd, _, g, F.kp, b, zeroF rfl⟩
      c9 := let ⟨f, fd, F, g, b⟩ := T.f9; ⟨f, fd, _, g, F.kp, b, zeroF rfl⟩
      c10 := let ⟨f, fd, F, g, b⟩ := T.f10; ⟨f, fd, _, g, F.kp, b, zeroF rfl⟩
      c11 := let ⟨f, fd, F, g, b⟩ := T.f11; ⟨f, fd, _, g, F.kp, b, zeroF rfl⟩
      c12 := let ⟨f, fd, F, g⟩ := T.f12; ⟨f, g, F.kp, zeroS⟩
      c13 := let ⟨f, fd, F, g, b⟩ := T.f13; ⟨f, fd, _, g, F.kp, b, zeroF rfl⟩
      c14 := let ⟨f, fd, F, g⟩ := T.f14; ⟨f, g, F.kp, zeroS⟩
      c15 := let ⟨f, fd, F, g, b⟩ := T.f15; ⟨f, fd, _, g, F.kp, b, zeroF rfl⟩
      c16 := let ⟨f, fd, F, g, b⟩ := T.f16; ⟨f, fd, _, g, F.kp, b, zeroF rfl⟩
      c17 := let ⟨f, fd, F, g, b⟩ := T.f17; ⟨f, fd, _, g, F.kp, b, zeroF rfl⟩
      c18 := let ⟨f, fd, F, g, b⟩ := T.f18; ⟨f, fd, _, g, F.kp, b, zeroF rfl⟩
      c19 := let ⟨f, fd, F, g, b⟩ := T.f19; ⟨f, fd, _, g, F.kp, b, zeroF rfl⟩
      c20 := let ⟨f, fd, F, g, b⟩ := T.f20; ⟨f, fd, _, g, F.kp, b, zeroF rfl⟩
      c21 := let ⟨f, fd, F, g, b⟩ := T.f21; ⟨f, fd, _, g, F.kp, b, zeroF rfl⟩
      c22 := let ⟨f, fd, F, g, b⟩ := T.f22; ⟨f, fd, _, g, F.kp, b, zeroF rfl⟩
      c23 := let ⟨f, fd, F, g, b⟩ := T.f23; ⟨f, fd, _, g, F.kp, b, zeroF rfl⟩
      c24 := let ⟨f, fd, F, g, b⟩ := T.f24; ⟨f, fd, _, g, F.kp, b, zeroF rfl⟩
      c25 := let ⟨f, fd, F, g, b⟩ := T.f25; ⟨f, fd, _, g, F.kp, b, zeroF rfl⟩
    }
  | n + 1 =>
    have I := all_n T n
    have ⟨_, hg_LETTERS⟩ := T.g_LETTERS
    have ⟨_, hg_MAX_LETTERS⟩ := T.g_MAX_LETTERS
    {
      c0 := let ⟨f, fd, F, g, b⟩ := T.f0; ⟨f, fd, _, g, F.kp, b, fn_ok (fn := c0) F s0 rfl rfl (by decide) (b0 T.bl)⟩
      c1 := let ⟨f, fd, F, g, b⟩ := T.f1; ⟨f, fd, _, g, F.kp, b, fn_ok (fn := c1) F s1 rfl rfl (by decide) (b1 T.bl I.c0)⟩
      c2 := let ⟨f, fd, F, g, b⟩ := T.f2; ⟨f, fd, _, g, F.kp, b, fn_ok (fn := c2) F s2 rfl rfl (by decide) (b2 T.bl I.c1)⟩
      c3 := let ⟨f, fd, F, g, b⟩ := T.f3; ⟨f, fd, _, g, F.kp, b, fn_ok (fn := c3) F s3 rfl rfl (by decide) (b3 T.bl hg_LETTERS hg_MAX_LETTERS)⟩
      c4 := let ⟨f, fd, F, g, b⟩ := T.f4; ⟨f, fd, _, g, F.kp, b, fn_ok (fn := c4) F s4 rfl rfl (by decide) (b4 T.bl)⟩
      c5 := let ⟨f, fd, F, g, b⟩ := T.f5; ⟨f, fd, _, g, F.kp, b, fn_ok (fn := c5) F s5 rfl rfl (by decide) (b5 T.bl I.c0 I.c1 I.c4)⟩
      c6 := let ⟨f, fd, F, g, b⟩ := T.f6; ⟨f, fd, _, g, F.kp, b, fn_ok (fn := c6) F s6 rfl rfl (by decide) (b6 T.bl I.c4)⟩
      c7 := let ⟨f, fd, F, g, b⟩ := T.f7; ⟨f, fd, _, g, F.kp, b, fn_ok (fn := c7) F s7 rfl rfl (by decide) (b7 T.bl I.c0 I.c2 I.c6)⟩
      c8 := let ⟨f, fd, F, g, b⟩ := T.f8; ⟨f, fd, _, g, F.kp, b, fn_ok (fn := c8) F s8 rfl rfl (by decide) (b8 T.bl I.c5)⟩
      c9 := let ⟨f, fd, F, g, b⟩ := T.f9; ⟨f, fd, _, g, F.kp, b, fn_ok (fn := c9) F s9 rfl rfl (by decide) (b9 T.bl)⟩
      c10 := let ⟨f, fd, F, g, b⟩ := T.f10; ⟨f, fd, _, g, F.kp, b, fn_ok (fn := c10) F s10 rfl rfl (by decide) (b10 T.bl I.c8 I.c9)⟩
      c11 := let ⟨f, fd, F, g, b⟩ := T.f11; ⟨f, fd, _, g, F.kp, b, fn_ok (fn := c11) F s11 rfl rfl (by decide) (b11 T.bl I.c6)⟩
      c12 := let ⟨f, fd, F, g⟩ := T.f12; ⟨f, g, F.kp, fnS_ok (fn := c12) F s12 rfl rfl (by decide) (fun _ _ _ _ _ _ rest => match rest with | [] => rfl | _ :: _ => rfl) (b12 T.bl I.c8 I.c11)⟩
      c13 := let ⟨f, fd, F, g, b⟩ := T.f13; ⟨f, fd, _, g, F.kp, b, fn_ok (fn := c13) F s13 rfl rfl (by decide) (b13 T.bl I.c6)⟩
      c14 := let ⟨f, fd, F, g⟩ := T.f14; ⟨f, g, F.kp, fnS_ok (fn := c14) F s14 rfl rfl (by decide) (fun _ _ _ _ _ _ rest => match rest with | [] => rfl | _ :: _ => rfl) (b14 T.bl I.c8 I.c13)⟩
      c15 := let ⟨f, fd, F, g, b⟩ := T.f15; ⟨f, fd, _, g, F.kp, b, fn_ok (fn := c15) F s15 rfl rfl (by decide) (b15 T.bl)⟩
      c16 := let ⟨f, fd, F, g, b⟩ := T.f16; ⟨f, fd, _, g, F.kp, b, fn_ok (fn := c16) F s16 rfl rfl (by decide) (b16 T.bl)⟩
      c17 := let ⟨f, fd, F, g, b⟩ := T.f17; ⟨f, fd, _, g, F.kp, b, fn_ok (fn := c17) F s17 rfl rfl (by decide) (b17 T.bl I.c16)⟩
      c18 := let ⟨f, fd, F, g, b⟩ := T.f18; ⟨f, fd, _, g, F.kp, b, fn_ok (fn := c18) F s18 rfl rfl (by decide) (b18 T.bl)⟩
      c19 := let ⟨f, fd, F, g, b⟩ := T.f19; ⟨f, fd, _, g, F.kp, b, fn_ok (fn := c19) F s19 rfl rfl (by decide) (b19 T.bl)⟩
      c20 := let ⟨f, fd, F, g, b⟩ := T.f20; ⟨f, fd, _, g, F.kp, b, fn_ok (fn := c20) F s20 rfl rfl (by decide) (b20 T.bl)⟩
      c21 := let ⟨f, fd, F, g, b⟩ := T.f21; ⟨f, fd, _, g, F.kp, b, fn_ok (fn := c21) F s21 rfl rfl (by decide) (b21 T.bl I.c16 I.c17)⟩
      c22 := let ⟨f, fd, F, g, b⟩ := T.f22; ⟨f, fd, _, g, F.kp, b, fn_ok (fn := c22) F s22 rfl rfl (by decide) (b22 T.bl I.c12 I.c14 I.c18)⟩
      c23 := let ⟨f, fd, F, g, b⟩ := T.f23; ⟨f, fd, _, g, F.kp, b, fn_ok (fn := c23) F s23 rfl rfl (by decide) (b23 T.bl I.c5 I.c7 I.c10 I.c16 I.c18 I.c19 I.c20 I.c21 I.c22)⟩
      c24 := let ⟨f, fd, F, g, b⟩ := T.f24; ⟨f, fd, _, g, F.kp, b, fn_ok (fn := c24) F s24 rfl rfl (by decide) (b24 T.bl I.c3 I.c16 I.c17)⟩
      c25 := let ⟨f, fd, F, g, b⟩ := T.f25; ⟨f, fd, _, g, F.kp, b, fn_ok (fn := c25) F s25 rfl rfl (by decide) (b25 T.bl I.c7 I.c12 I.c14 I.c15 I.c23 I.c24 hg_MAX_LETTERS)⟩
    }
end
def spLaw (K : PySem.W.Frag) : Sp := fun vs H Q _ => ∃ (a : Addr) (ns : List Int), vs = [.ref a] ∧ SqL K H a (ns.map V.int) ∧ ns.length ≤ 63 ∧ ∀ H', Q (.bl true) H'
theorem all_mk (hlaw : ∀ ns : List Int, ns.length ≤ 63 → ∃ ps', PV.run code 30 25 [.fz (.scr ns)] = .ok (.fz (.bl true)) ps') {l : PySem.W.OpenLaw} {w : World} {K : PySem.W.Frag} {h : Heap} {mg : Str → Option Value} {fa : Addr} (X : K.In h) (G : h.Ns mainGlobals mg) (hfa : mg "law" = some (.ref fa))
    {f0 : Addr} {od0 an0 : Option Addr} {sl0 : Array (Option Value)} {oc0 kV0 dc0 pm0 cd0 ct0 : Value}
    {f1 : Addr} {od1 an1 : Option Addr} {sl1 : Array (Option Value)} {oc1 kV1 dc1 pm1 cd1 ct1 : Value}
    {f2 : Addr} {od2 an2 : Option Addr} {sl2 : Array (Option Value)} {oc2 kV2 dc2 pm2 cd2 ct2 : Value}
    {f3 : Addr} {od3 an3 : Option Addr} {sl3 : Array (Option Value)} {oc3 kV3 dc3 pm3 cd3 ct3 : Value}
    {f4 : Addr} {od4 an4 : Option Addr} {sl4 : Array (Option Value)} {oc4 kV4 dc4 pm4 cd4 ct4 : Value}
    {f5 : Addr} {od5 an5 : Option Addr} {sl5 : Array (Option Value)} {oc5 kV5 dc5 pm5 cd5 ct5 : Value}
    {f6 : Addr} {od6 an6 : Option Addr} {sl6 : Array (Option Value)} {oc6 kV6 dc6 pm6 cd6 ct6 : Value}
    {f7 : Addr} {od7 an7 : Option Addr} {sl7 : Array (Option Value)} {oc7 kV7 dc7 pm7 cd7 ct7 : Value}
    {f8 : Addr} {od8 an8 : Option Addr} {sl8 : Array (Option Value)} {oc8 kV8 dc8 pm8 cd8 ct8 : Value}
    {f9 : Addr} {od9 an9 : Option Addr} {sl9 : Array (Option Value)} {oc9 kV9 dc9 pm9 cd9 ct9 : Value}
    {f10 : Addr} {od10 an10 : Option Addr} {sl10 : Array (Option Value)} {oc10 kV10 dc10 pm10 cd10 ct10 : Value}
    {f11 : Addr} {od11 an11 : Option Addr} {sl11 : Array (Option Value)} {oc11 kV11 dc11 pm11 cd11 ct11 : Value}
    {f12 : Addr} {od12 an12 : Option Addr} {sl12 : Array (Option Value)} {oc12 kV12 dc12 pm12 cd12 ct12 : Value}
    {f13 : Addr} {od13 an13 : Option Addr} {sl13 : Array (Option Value)} {oc13 kV13 dc13 pm13 cd13 ct13 : Value}
    {f14 : Addr} {od14 an14 : Option Addr} {sl14 : Array (Option Value)} {oc14 kV14 dc14 pm14 cd14 ct14 : Value}
    {f15 : Addr} {od15 an15 : Option Addr} {sl15 : Array (Option Value)} {oc15 kV15 dc15 pm15 cd15 ct15 : Value}
    {f16 : Addr} {od16 an16 : Option Addr} {sl16 : Array (Option Value)} {oc16 kV16 dc16 pm16 cd16 ct16 : Value}
    {f17 : Addr} {od17 an17 : Option Addr} {sl17 : Array (Option Value)} {oc17 kV17 dc17 pm17 cd17 ct17 : Value}
    {f18 : Addr} {od18 an18 : Option Addr} {sl18 : Array (Option Value)} {oc18 kV18 dc18 pm18 cd18 ct18 : Value}
    {f19 : Addr} {od19 an19 : Option Addr} {sl19 : Array (Option Value)} {oc19 kV19 dc19 pm19 cd19 ct19 : Value}
    {f20 : Addr} {od20 an20 : Option Addr} {sl20 : Array (Option Value)} {oc20 kV20 dc20 pm20 cd20 ct20 : Value}
    {f21 : Addr} {od21 an21 : Option Addr} {sl21 : Array (Option Value)} {oc21 kV21 dc21 pm21 cd21 ct21 : Value}
    {f22 : Addr} {od22 an22 : Option Addr} {sl22 : Array (Option Value)} {oc22 kV22 dc22 pm22 cd22 ct22 : Value}
    {f23 : Addr} {od23 an23 : Option Addr} {sl23 : Array (Option Value)} {oc23 kV23 dc23 pm23 cd23 ct23 : Value}
    {f24 : Addr} {od24 an24 : Option Addr} {sl24 : Array (Option Value)} {oc24 kV24 dc24 pm24 cd24 ct24 : Value}
    {f25 : Addr} {od25 an25 : Option Addr} {sl25 : Array (Option Value)} {oc25 kV25 dc25 pm25 cd25 ct25 : Value}
    {t_LETTERS : Tok}
    {t_MAX_LETTERS : Tok}
    (a0 : PySem.W.nsIn K mainGlobals "is_integer" = some (some (.ref f0))) (l0 : K.lookup f0 = some ⟨oc0, od0, .func (PySem.W.fnOf "is_integer" "is_integer" (defArgs (topS 7)) (defBody (topS 7)) (defScope (topS 7)) .none kV0 dc0 pm0 an0 cd0 ct0), sl0⟩) (d0 : PySem.W.codeIn K cd0 "is_integer" = true) (k0 : PySem.W.keepIn K (.ref f0) = true)
    (a1 : PySem.W.nsIn K mainGlobals "is_number" = some (some (.ref f1))) (l1 : K.lookup f1 = some ⟨oc1, od1, .func (PySem.W.fnOf "is_number" "is_number" (defArgs (topS 8)) (defBody (topS 8)) (defScope (topS 8)) .none kV1 dc1 pm1 an1 cd1 ct1), sl1⟩) (d1 : PySem.W.codeIn K cd1 "is_number" = true) (k1 : PySem.W.keepIn K (.ref f1) = true)
    (a2 : PySem.W.nsIn K mainGlobals "require_many" = some (some (.ref f2))) (l2 : K.lookup f2 = some ⟨oc2, od2, .func (PySem.W.fnOf "require_many" "require_many" (defArgs (topS 9)) (defBody (topS 9)) (defScope (topS 9)) .none kV2 dc2 pm2 an2 cd2 ct2), sl2⟩) (d2 : PySem.W.codeIn K cd2 "require_many" = true) (k2 : PySem.W.keepIn K (.ref f2) = true)
    (a3 : PySem.W.nsIn K mainGlobals "is_place" = some (some (.ref f3))) (l3 : K.lookup f3 = some ⟨oc3, od3, .func (PySem.W.fnOf "is_place" "is_place" (defArgs (topS 10)) (defBody (topS 10)) (defScope (topS 10)) .none kV3 dc3 pm3 an3 cd3 ct3), sl3⟩) (d3 : PySem.W.codeIn K cd3 "is_place" = true) (k3 : PySem.W.keepIn K (.ref f3) = true)
    (a4 : PySem.W.nsIn K mainGlobals "divisor_of" = some (some (.ref f4))) (l4 : K.lookup f4 = some ⟨oc4, od4, .func (PySem.W.fnOf "divisor_of" "divisor_of" (defArgs (topS 11)) (defBody (topS 11)) (defScope (topS 11)) .none kV4 dc4 pm4 an4 cd4 ct4), sl4⟩) (d4 : PySem.W.codeIn K cd4 "divisor_of" = true) (k4 : PySem.W.keepIn K (.ref f4) = true)
    (a5 : PySem.W.nsIn K mainGlobals "is_fraction" = some (some (.ref f5))) (l5 : K.lookup f5 = some ⟨oc5, od5, .func (PySem.W.fnOf "is_fraction" "is_fraction" (defArgs (topS 12)) (defBody (topS 12)) (defScope (topS 12)) .none kV5 dc5 pm5 an5 cd5 ct5), sl5⟩) (d5 : PySem.W.codeIn K cd5 "is_fraction" = true) (k5 : PySem.W.keepIn K (.ref f5) = true)
    (a6 : PySem.W.nsIn K mainGlobals "fraction_in" = some (some (.ref f6))) (l6 : K.lookup f6 = some ⟨oc6, od6, .func (PySem.W.fnOf "fraction_in" "fraction_in" (defArgs (topS 13)) (defBody (topS 13)) (defScope (topS 13)) .none kV6 dc6 pm6 an6 cd6 ct6), sl6⟩) (d6 : PySem.W.codeIn K cd6 "fraction_in" = true) (k6 : PySem.W.keepIn K (.ref f6) = true)
    (a7 : PySem.W.nsIn K mainGlobals "fraction" = some (some (.ref f7))) (l7 : K.lookup f7 = some ⟨oc7, od7, .func (PySem.W.fnOf "fraction" "fraction" (defArgs (topS 14)) (defBody (topS 14)) (defScope (topS 14)) .none kV7 dc7 pm7 an7 cd7 ct7), sl7⟩) (d7 : PySem.W.codeIn K cd7 "fraction" = true) (k7 : PySem.W.keepIn K (.ref f7) = true)
    (a8 : PySem.W.nsIn K mainGlobals "require_fractions" = some (some (.ref f8))) (l8 : K.lookup f8 = some ⟨oc8, od8, .func (PySem.W.fnOf "require_fractions" "require_fractions" (defArgs (topS 15)) (defBody (topS 15)) (defScope (topS 15)) .none kV8 dc8 pm8 an8 cd8 ct8), sl8⟩) (d8 : PySem.W.codeIn K cd8 "require_fractions" = true) (k8 : PySem.W.keepIn K (.ref f8) = true)
    (a9 : PySem.W.nsIn K mainGlobals "is_less" = some (some (.ref f9))) (l9 : K.lookup f9 = some ⟨oc9, od9, .func (PySem.W.fnOf "is_less" "is_less" (defArgs (topS 16)) (defBody (topS 16)) (defScope (topS 16)) .none kV9 dc9 pm9 an9 cd9 ct9), sl9⟩) (d9 : PySem.W.codeIn K cd9 "is_less" = true) (k9 : PySem.W.keepIn K (.ref f9) = true)
    (a10 : PySem.W.nsIn K mainGlobals "is_lower" = some (some (.ref f10))) (l10 : K.lookup f10 = some ⟨oc10, od10, .func (PySem.W.fnOf "is_lower" "is_lower" (defArgs (topS 17)) (defBody (topS 17)) (defScope (topS 17)) .none kV10 dc10 pm10 an10 cd10 ct10), sl10⟩) (d10 : PySem.W.codeIn K cd10 "is_lower" = true) (k10 : PySem.W.keepIn K (.ref f10) = true)
    (a11 : PySem.W.nsIn K mainGlobals "sum_in" = some (some (.ref f11))) (l11 : K.lookup f11 = some ⟨oc11, od11, .func (PySem.W.fnOf "sum_in" "sum_in" (defArgs (topS 18)) (defBody (topS 18)) (defScope (topS 18)) .none kV11 dc11 pm11 an11 cd11 ct11), sl11⟩) (d11 : PySem.W.codeIn K cd11 "sum_in" = true) (k11 : PySem.W.keepIn K (.ref f11) = true)
    (a12 : PySem.W.nsIn K mainGlobals "added" = some (some (.ref f12))) (l12 : K.lookup f12 = some ⟨oc12, od12, .func (PySem.W.fnOf "added" "added" (defArgs (topS 19)) (defBody (topS 19)) (defScope (topS 19)) .none kV12 dc12 pm12 an12 cd12 ct12), sl12⟩) (d12 : PySem.W.codeIn K cd12 "added" = true) (k12 : PySem.W.keepIn K (.ref f12) = true)
    (a13 : PySem.W.nsIn K mainGlobals "product_in" = some (some (.ref f13))) (l13 : K.lookup f13 = some ⟨oc13, od13, .func (PySem.W.fnOf "product_in" "product_in" (defArgs (topS 20)) (defBody (topS 20)) (defScope (topS 20)) .none kV13 dc13 pm13 an13 cd13 ct13), sl13⟩) (d13 : PySem.W.codeIn K cd13 "product_in" = true) (k13 : PySem.W.keepIn K (.ref f13) = true)
    (a14 : PySem.W.nsIn K mainGlobals "multiplied" = some (some (.ref f14))) (l14 : K.lookup f14 = some ⟨oc14, od14, .func (PySem.W.fnOf "multiplied" "multiplied" (defArgs (topS 21)) (defBody (topS 21)) (defScope (topS 21)) .none kV14 dc14 pm14 an14 cd14 ct14), sl14⟩) (d14 : PySem.W.codeIn K cd14 "multiplied" = true) (k14 : PySem.W.keepIn K (.ref f14) = true)
    (a15 : PySem.W.nsIn K mainGlobals "_law_dice" = some (some (.ref f15))) (l15 : K.lookup f15 = some ⟨oc15, od15, .func (PySem.W.fnOf "_law_dice" "_law_dice" (defArgs (topS 23)) (defBody (topS 23)) (defScope (topS 23)) .none kV15 dc15 pm15 an15 cd15 ct15), sl15⟩) (d15 : PySem.W.codeIn K cd15 "_law_dice" = true) (k15 : PySem.W.keepIn K (.ref f15) = true)
    (a16 : PySem.W.nsIn K mainGlobals "_law_roll" = some (some (.ref f16))) (l16 : K.lookup f16 = some ⟨oc16, od16, .func (PySem.W.fnOf "_law_roll" "_law_roll" (defArgs (topS 24)) (defBody (topS 24)) (defScope (topS 24)) .none kV16 dc16 pm16 an16 cd16 ct16), sl16⟩) (d16 : PySem.W.codeIn K cd16 "_law_roll" = true) (k16 : PySem.W.keepIn K (.ref f16) = true)
    (a17 : PySem.W.nsIn K mainGlobals "_law_one_of" = some (some (.ref f17))) (l17 : K.lookup f17 = some ⟨oc17, od17, .func (PySem.W.fnOf "_law_one_of" "_law_one_of" (defArgs (topS 25)) (defBody (topS 25)) (defScope (topS 25)) .none kV17 dc17 pm17 an17 cd17 ct17), sl17⟩) (d17 : PySem.W.codeIn K cd17 "_law_one_of" = true) (k17 : PySem.W.keepIn K (.ref f17) = true)
    (a18 : PySem.W.nsIn K mainGlobals "_law_lowest" = some (some (.ref f18))) (l18 : K.lookup f18 = some ⟨oc18, od18, .func (PySem.W.fnOf "_law_lowest" "_law_lowest" (defArgs (topS 26)) (defBody (topS 26)) (defScope (topS 26)) .none kV18 dc18 pm18 an18 cd18 ct18), sl18⟩) (d18 : PySem.W.codeIn K cd18 "_law_lowest" = true) (k18 : PySem.W.keepIn K (.ref f18) = true)
    (a19 : PySem.W.nsIn K mainGlobals "_law_less" = some (some (.ref f19))) (l19 : K.lookup f19 = some ⟨oc19, od19, .func (PySem.W.fnOf "_law_less" "_law_less" (defArgs (topS 27)) (defBody (topS 27)) (defScope (topS 27)) .none kV19 dc19 pm19 an19 cd19 ct19), sl19⟩) (d19 : PySem.W.codeIn K cd19 "_law_less" = true) (k19 : PySem.W.keepIn K (.ref f19) = true)
    (a20 : PySem.W.nsIn K mainGlobals "_law_is_lowest" = some (some (.ref f20))) (l20 : K.lookup f20 = some ⟨oc20, od20, .func (PySem.W.fnOf "_law_is_lowest" "_law_is_lowest" (defArgs (topS 28)) (defBody (topS 28)) (defScope (topS 28)) .none kV20 dc20 pm20 an20 cd20 ct20), sl20⟩) (d20 : PySem.W.codeIn K cd20 "_law_is_lowest" = true) (k20 : PySem.W.keepIn K (.ref f20) = true)
    (a21 : PySem.W.nsIn K mainGlobals "_law_drawn" = some (some (.ref f21))) (l21 : K.lookup f21 = some ⟨oc21, od21, .func (PySem.W.fnOf "_law_drawn" "_law_drawn" (defArgs (topS 29)) (defBody (topS 29)) (defScope (topS 29)) .none kV21 dc21 pm21 an21 cd21 ct21), sl21⟩) (d21 : PySem.W.codeIn K cd21 "_law_drawn" = true) (k21 : PySem.W.keepIn K (.ref f21) = true)
    (a22 : PySem.W.nsIn K mainGlobals "_law_sums_right" = some (some (.ref f22))) (l22 : K.lookup f22 = some ⟨oc22, od22, .func (PySem.W.fnOf "_law_sums_right" "_law_sums_right" (defArgs (topS 30)) (defBody (topS 30)) (defScope (topS 30)) .none kV22 dc22 pm22 an22 cd22 ct22), sl22⟩) (d22 : PySem.W.codeIn K cd22 "_law_sums_right" = true) (k22 : PySem.W.keepIn K (.ref f22) = true)
    (a23 : PySem.W.nsIn K mainGlobals "_law_right" = some (some (.ref f23))) (l23 : K.lookup f23 = some ⟨oc23, od23, .func (PySem.W.fnOf "_law_right" "_law_right" (defArgs (topS 31)) (defBody (topS 31)) (defScope (topS 31)) .none kV23 dc23 pm23 an23 cd23 ct23), sl23⟩) (d23 : PySem.W.codeIn K cd23 "_law_right" = true) (k23 : PySem.W.keepIn K (.ref f23) = true)
    (a24 : PySem.W.nsIn K mainGlobals "_law_places_right" = some (some (.ref f24))) (l24 : K.lookup f24 = some ⟨oc24, od24, .func (PySem.W.fnOf "_law_places_right" "_law_places_right" (defArgs (topS 32)) (defBody (topS 32)) (defScope (topS 32)) .none kV24 dc24 pm24 an24 cd24 ct24), sl24⟩) (d24 : PySem.W.codeIn K cd24 "_law_places_right" = true) (k24 : PySem.W.keepIn K (.ref f24) = true)
    (a25 : PySem.W.nsIn K mainGlobals "law" = some (some (.ref f25))) (l25 : K.lookup f25 = some ⟨oc25, od25, .func (PySem.W.fnOf "law" "law" (defArgs (topS 33)) (defBody (topS 33)) (defScope (topS 33)) .none kV25 dc25 pm25 an25 cd25 ct25), sl25⟩) (d25 : PySem.W.codeIn K cd25 "law" = true) (k25 : PySem.W.keepIn K (.ref f25) = true)
    (g_LETTERS : PySem.W.nsIn K mainGlobals "LETTERS" = some (some (.str (Str.ofString "abcdefghijklmnopqrstuvwxyz") t_LETTERS)))
    (g_MAX_LETTERS : PySem.W.nsIn K mainGlobals "MAX_LETTERS" = some (some (.int 8 t_MAX_LETTERS)))
    (z_abs : PySem.W.nsIn K mainGlobals "abs" = some none)
    (z_all : PySem.W.nsIn K mainGlobals "all" = some none)
    (z_bool : PySem.W.nsIn K mainGlobals "bool" = some none)
    (z_int : PySem.W.nsIn K mainGlobals "int" = some none)
    (z_isinstance : PySem.W.nsIn K mainGlobals "isinstance" = some none)
    (z_len : PySem.W.nsIn K mainGlobals "len" = some none)
    (z_list : PySem.W.nsIn K mainGlobals "list" = some none)
    (z_max : PySem.W.nsIn K mainGlobals "max" = some none)
    (z_min : PySem.W.nsIn K mainGlobals "min" = some none)
    (z_range : PySem.W.nsIn K mainGlobals "range" = some none)
    (z_str : PySem.W.nsIn K mainGlobals "str" = some none)
    (z_tuple : PySem.W.nsIn K mainGlobals "tuple" = some none)
    : ∃ fd : FuncData, (∀ (s : Shared) (v : Value), BindsTo s fd ⟨[v], []⟩ [("_law_script", v)]) ∧ ∀ base : Heap, K.In base → base.Ns mainGlobals mg → FnOk l.prog w K mg base CX0 30 fa fd ["_law_script"] (spLaw K) := by
  have e := hfa.symm.trans (PySem.W.mg_of X G a25)
  cases e
  have T : Hd K mg := {
    bl := by
      intro x hx
      simp only [bltN, List.mem_cons, List.not_mem_nil, or_false] at hx
      rcases hx with rfl | rfl | rfl | rfl | rfl | rfl | rfl | rfl | rfl | rfl | rfl | rfl
      · exact PySem.W.mg_none_of X G z_abs
      · exact PySem.W.mg_none_of X G z_all
      · exact PySem.W.mg_none_of X G z_bool
      · exact PySem.W.mg_none_of X G z_int
      · exact PySem.W.mg_none_of X G z_isinstance
      · exact PySem.W.mg_none_of X G z_len
      · exact PySem.W.mg_none_of X G z_list
      · exact PySem.W.mg_none_of X G z_max
      · exact PySem.W.mg_none_of X G z_min
      · exact PySem.W.mg_none_of X G z_range
      · exact PySem.W.mg_none_of X G z_str
      · exact PySem.W.mg_none_of X G z_tuple
    f0 := ⟨_, _, fun_mk (st := topS 7) l0 d0 k0, PySem.W.mg_of X G a0, (fun_mk (st := topS 7) l0 d0 k0).binds fun _ _ _ _ _ _ us hl => match us, hl with | [_], _ => rfl⟩
    f1 := ⟨_, _, fun_mk (st := topS 8) l1 d1 k1, PySem.W.mg_of X G a1, (fun_mk (st := topS 8) l1 d1 k1).binds fun _ _ _ _ _ _ us hl => match us, hl with | [_], _ => rfl⟩
    f2 := ⟨_, _, fun_mk (st := topS 9) l2 d2 k2, PySem.W.mg_of X G a2, (fun_mk (st := topS 9) l2 d2 k2).binds fun _ _ _ _ _ _ us hl => match us, hl with | [_], _ => rfl⟩
    f3 := ⟨_, _, fun_mk (st := topS 10) l3 d3 k3, PySem.W.mg_of X G a3, (fun_mk (st := topS 10) l3 d3 k3).binds fun _ _ _ _ _ _ us hl => match us, hl with | [_], _ => rfl⟩
    f4 := ⟨_, _, fun_mk (st := topS 11) l4 d4 k4, PySem.W.mg_of X G a4, (fun_mk (st := topS 11) l4 d4 k4).binds fun _ _ _ _ _ _ us hl => match us, hl with | [_, _], _ => rfl⟩
    f5 := ⟨_, _, fun_mk (st := topS 12) l5 d5 k5, PySem.W.mg_of X G a5, (fun_mk (st := topS 12) l5 d5 k5).binds fun _ _ _ _ _ _ us hl => match us, hl with | [_], _ => rfl⟩
    f6 := ⟨_, _, fun_mk (st := topS 13) l6 d6 k6, PySem.W.mg_of X G a6, (fun_mk (st := topS 13) l6 d6 k6).binds fun _ _ _ _ _ _ us hl => match us, hl with | [_, _], _ => rfl⟩
    f7 := ⟨_, _, fun_mk (st := topS 14) l7 d7 k7, PySem.W.mg_of X G a7, (fun_mk (st := topS 14) l7 d7 k7).binds fun _ _ _ _ _ _ us hl => match us, hl with | [_, _], _ => rfl⟩
    f8 := ⟨_, _, fun_mk (st := topS 15) l8 d8 k8, PySem.W.mg_of X G a8, (fun_mk (st := topS 15) l8 d8 k8).binds fun _ _ _ _ _ _ us hl => match us, hl with | [_], _ => rfl⟩
    f9 := ⟨_, _, fun_mk (st := topS 16) l9 d9 k9, PySem.W.mg_of X G a9, (fun_mk (st := topS 16) l9 d9 k9).binds fun _ _ _ _ _ _ us hl => match us, hl with | [_, _], _ => rfl⟩
    f10 := ⟨_, _, fun_mk (st := topS 17) l10 d10 k10, PySem.W.mg_of X G a10, (fun_mk (st := topS 17) l10 d10 k10).binds fun _ _ _ _ _ _ us hl => match us, hl with | [_, _], _ => rfl⟩
    f11 := ⟨_, _, fun_mk (st := topS 18) l11 d11 k11, PySem.W.mg_of X G a11, (fun_mk (st := topS 18) l11 d11 k11).binds fun _ _ _ _ _ _ us hl => match us, hl with | [_, _], _ => rfl⟩
    f12 := ⟨_, _, fun_mk (st := topS 19) l12 d12 k12, PySem.W.mg_of X G a12⟩
    f13 := ⟨_, _, fun_mk (st := topS 20) l13 d13 k13, PySem.W.mg_of X G a13, (fun_mk (st := topS 20) l13 d13 k13).binds fun _ _ _ _ _ _ us hl => match us, hl with | [_, _], _ => rfl⟩
    f14 := ⟨_, _, fun_mk (st := topS 21) l14 d14 k14, PySem.W.mg_of X G a14⟩
    f15 := ⟨_, _, fun_mk (st := topS 23) l15 d15 k15, PySem.W.mg_of X G a15, (fun_mk (st := topS 23) l15 d15 k15).binds fun _ _ _ _ _ _ us hl => match us, hl with | [_, _], _ => rfl⟩
    f16 := ⟨_, _, fun_mk (st := topS 24) l16 d16 k16, PySem.W.mg_of X G a16, (fun_mk (st := topS 24) l16 d16 k16).binds fun _ _ _ _ _ _ us hl => match us, hl with | [_, _], _ => rfl⟩
    f17 := ⟨_, _, fun_mk (st := topS 25) l17 d17 k17, PySem.W.mg_of X G a17, (fun_mk (st := topS 25) l17 d17 k17).binds fun _ _ _ _ _ _ us hl => match us, hl with | [_, _], _ => rfl⟩
    f18 := ⟨_, _, fun_mk (st := topS 26) l18 d18 k18, PySem.W.mg_of X G a18, (fun_mk (st := topS 26) l18 d18 k18).binds fun _ _ _ _ _ _ us hl => match us, hl with | [_, _], _ => rfl⟩
    f19 := ⟨_, _, fun_mk (st := topS 27) l19 d19 k19, PySem.W.mg_of X G a19, (fun_mk (st := topS 27) l19 d19 k19).binds fun _ _ _ _ _ _ us hl => match us, hl with | [_, _], _ => rfl⟩
    f20 := ⟨_, _, fun_mk (st := topS 28) l20 d20 k20, PySem.W.mg_of X G a20, (fun_mk (st := topS 28) l20 d20 k20).binds fun _ _ _ _ _ _ us hl => match us, hl with | [_], _ => rfl⟩
    f21 := ⟨_, _, fun_mk (st := topS 29) l21 d21 k21, PySem.W.mg_of X G a21, (fun_mk (st := topS 29) l21 d21 k21).binds fun _ _ _ _ _ _ us hl => match us, hl with | [_], _ => rfl⟩
    f22 := ⟨_, _, fun_mk (st := topS 30) l22 d22 k22, PySem.W.mg_of X G a22, (fun_mk (st := topS 30) l22 d22 k22).binds fun _ _ _ _ _ _ us hl => match us, hl with | [_], _ => rfl⟩
    f23 := ⟨_, _, fun_mk (st := topS 31) l23 d23 k23, PySem.W.mg_of X G a23, (fun_mk (st := topS 31) l23 d23 k23).binds fun _ _ _ _ _ _ us hl => match us, hl with | [_], _ => rfl⟩
    f24 := ⟨_, _, fun_mk (st := topS 32) l24 d24 k24, PySem.W.mg_of X G a24, (fun_mk (st := topS 32) l24 d24 k24).binds fun _ _ _ _ _ _ us hl => match us, hl with | [_], _ => rfl⟩
    f25 := ⟨_, _, fun_mk (st := topS 33) l25 d25 k25, PySem.W.mg_of X G a25, (fun_mk (st := topS 33) l25 d25 k25).binds fun _ _ _ _ _ _ us hl => match us, hl with | [_], _ => rfl⟩
    g_LETTERS := ⟨_, PySem.W.mg_of X G g_LETTERS⟩
    g_MAX_LETTERS := ⟨_, PySem.W.mg_of X G g_MAX_LETTERS⟩
  }
  refine ⟨PySem.W.fnOf "law" "law" (defArgs (topS 33)) (defBody (topS 33)) (defScope (topS 33)) .none kV25 dc25 pm25 an25 cd25 ct25, fun s v => .of_eq rfl, fun base _ _ => ?_⟩
  have I := all_n (P := l.prog) (w := w) (base := base) T 29
  have ⟨_, hg_LETTERS⟩ := T.g_LETTERS
  have ⟨_, hg_MAX_LETTERS⟩ := T.g_MAX_LETTERS
  refine (fn_ok (fn := c25) (fun_mk (st := topS 33) l25 d25 k25) s25 rfl rfl (by decide) (b25 T.bl I.c7 I.c12 I.c14 I.c15 I.c23 I.c24 hg_MAX_LETTERS)).imp fun vs H Q E h => ?_
  obtain ⟨a, ns, rfl, hS, hl, q⟩ := h
  obtain ⟨ps', hp⟩ := hlaw ns hl
  refine ⟨rfl, H, [.fz (.scr ns)], _, ps', ⟨Same.refl H, rfl, fun i => ?_, fun i j p x y => by obtain ⟨_, ⟨_, z⟩, _⟩ := one_sl x; cases z⟩, hp, fun v F' H' c => ?_⟩
  · cases i with
    | zero => exact ⟨_, rfl, a, rfl, hS⟩
    | succ i => trivial
  · rw [show v = V.bl true from c.val]
    exact q _
end K01
open PySem PySem.W PyProof.Rows
theorem PySem.Challenge.cw_downsets_k01_whole_fractions_in_lowest_t_holds : PySem.Challenge.rw_downsets_k01_whole_fractions_in_lowest_t.Holds := by
  w_on; o_law; k_head; (case hw => w_witness2)
  k_fill
  refine L2.walk_of (l := PySem.Challenge.rw_downsets_k01_whole_fractions_in_lowest_t) (n := 63) (k := 30) (x := "_law_script") (CX := fun _ => L2.CX0) (sp := fun w => K01.spLaw _) rfl (by decide) rfl ⟨rfl, by decide, by decide⟩ (fun w h Y => PySem.W.kIn_of Y) ?F (fun _ _ a ns hl _ hS => ⟨a, ns, rfl, hS, hl, fun _ => rfl⟩) (fun _ _ _ _ _ h => h)
  case F =>
    intro w mg fa h KX G hmg
    refine' K01.all_mk K01.law_true KX G hmg ?a0 ?l0 ?d0 ?k0 ?a1 ?l1 ?d1 ?k1 ?a2 ?l2 ?d2 ?k2 ?a3 ?l3 ?d3 ?k3 ?a4 ?l4 ?d4 ?k4 ?a5 ?l5 ?d5 ?k5 ?a6 ?l6 ?d6 ?k6 ?a7 ?l7 ?d7 ?k7 ?a8 ?l8 ?d8 ?k8 ?a9 ?l9 ?d9 ?k9 ?a10 ?l10 ?d10 ?k10 ?a11 ?l11 ?d11 ?k11 ?a12 ?l12 ?d12 ?k12 ?a13 ?l13 ?d13 ?k13 ?a14 ?l14 ?d14 ?k14 ?a15 ?l15 ?d15 ?k15 ?a16 ?l16 ?d16 ?k16 ?a17 ?l17 ?d17 ?k17 ?a18 ?l18 ?d18 ?k18 ?a19 ?l19 ?d19 ?k19 ?a20 ?l20 ?d20 ?k20 ?a21 ?l21 ?d21 ?k21 ?a22 ?l22 ?d22 ?k22 ?a23 ?l23 ?d23 ?k23 ?a24 ?l24 ?d24 ?k24 ?a25 ?l25 ?d25 ?k25 ?g_LETTERS ?g_MAX_LETTERS ?z_abs ?z_all ?z_bool ?z_int ?z_isinstance ?z_len ?z_list ?z_max ?z_min ?z_range ?z_str ?z_tuple
    (case a0 => k_is)
    (case l0 => k_is)
    (case d0 => k_is)
    (case k0 => k_is)
    (case a1 => k_is)
    (case l1 => k_is)
    (case d1 => k_is)
    (case k1 => k_is)
    (case a2 => k_is)
    (case l2 => k_is)
    (case d2 => k_is)
    (case k2 => k_is)
    (case a3 => k_is)
    (case l3 => k_is)
    (case d3 => k_is)
    (case k3 => k_is)
    (case a4 => k_is)
    (case l4 => k_is)
    (case d4 => k_is)
    (case k4 => k_is)
    (case a5 => k_is)
    (case l5 => k_is)
    (case d5 => k_is)
    (case k5 => k_is)
    (case a6 => k_is)
    (case l6 => k_is)
    (case d6 => k_is)
    (case k6 => k_is)
    (case a7 => k_is)
    (case l7 => k_is)
    (case d7 => k_is)
    (case k7 => k_is)
    (case a8 => k_is)
    (case l8 => k_is)
    (case d8 => k_is)
    (case k8 => k_is)
    (case a9 => k_is)
    (case l9 => k_is)
    (case d9 => k_is)
    (case k9 => k_is)
    (case a10 => k_is)
    (case l10 => k_is)
    (case d10 => k_is)
    (case k10 => k_is)
    (case a11 => k_is)
    (case l11 => k_is)
    (case d11 => k_is)
    (case k11 => k_is)
    (case a12 => k_is)
    (case l12 => k_is)
    (case d12 => k_is)
    (case k12 => k_is)
    (case a13 => k_is)
    (case l13 => k_is)
    (case d13 => k_is)
    (case k13 => k_is)
    (case a14 => k_is)
    (case l14 => k_is)
    (case d14 => k_is)
    (case k14 => k_is)
    (case a15 => k_is)
    (case l15 => k_is)
    (case d15 => k_is)
    (case k15 => k_is)
    (case a16 => k_is)
    (case l16 => k_is)
    (case d16 => k_is)
    (case k16 => k_is)
    (case a17 => k_is)
    (case l17 => k_is)
    (case d17 => k_is)
    (case k17 => k_is)
    (case a18 => k_is)
    (case l18 => k_is)
    (case d18 => k_is)
    (case k18 => k_is)
    (case a19 => k_is)
    (case l19 => k_is)
    (case d19 => k_is)
    (case k19 => k_is)
    (case a20 => k_is)
    (case l20 => k_is)
    (case d20 => k_is)
    (case k20 => k_is)
    (case a21 => k_is)
    (case l21 => k_is)
    (case d21 => k_is)
    (case k21 => k_is)
    (case a22 => k_is)
    (case l22 => k_is)
    (case d22 => k_is)
    (case k22 => k_is)
    (case a23 => k_is)
    (case l23 => k_is)
    (case d23 => k_is)
    (case k23 => k_is)
    (case a24 => k_is)
    (case l24 => k_is)
    (case d24 => k_is)
    (case k24 => k_is)
    (case a25 => k_is)
    (case l25 => k_is)
    (case d25 => k_is)
    (case k25 => k_is)
    (case g_LETTERS => k_is)
    (case g_MAX_LETTERS => k_is)
    (case z_abs => k_is)
    (case z_all => k_is)
    (case z_bool => k_is)
    (case z_int => k_is)
    (case z_isinstance => k_is)
    (case z_len => k_is)
    (case z_list => k_is)
    (case z_max => k_is)
    (case z_min => k_is)
    (case z_range => k_is)
    (case z_str => k_is)
    (case z_tuple => k_is)

