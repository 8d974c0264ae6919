import PyProof.Rows.All
import Wide.All
import OpenK.AllK
import Wide.FinOn
import HandS.ForMost
import PyProof.ReprRoads
import HandS.SlotsVar
import HandS.ExcInit
import HandS.More
import HandS.Wide
import HandS.TupAny
import HandS.IsInst
import HandS.Style
import HandS.Deep
import HandS.Conv
import HandS.Star
import HandS.Property
import HandS.SlotsOwn
import HandS.Codes
import KE.KExcSuper
import HandS.ExcValue
import KE.KExcIs
import HandS.ExcField
import HandS.Ends
import PySem.Challenge.RW_downsets_k00_errors_and_what_they_keep
set_option Elab.async false
set_option linter.all false
set_option maxRecDepth 100000
set_option maxHeartbeats 4000000
/-! PvO: the order of texts; sorting. -/
namespace PV
open PySem L2 PyProof.Rows PySem.Spec
theorem lt_irr : ∀ a : List Nat, ltCps a a = false
  | [] => rfl
  | x :: a => by unfold ltCps; simp [lt_irr a]
theorem lt_asym : ∀ a b : List Nat, ltCps a b = true → ltCps b a = false
  | [], [], h => by cases h
  | [], _ :: _, _ => rfl
  | _ :: _, [], h => by cases h
  | x :: a, y :: b, h => by
    unfold ltCps at h ⊢
    have := lt_asym a b
    grind
theorem lt_conn : ∀ a b : List Nat, ltCps a b = false → ltCps b a = false → a = b
  | [], [], _, _ => rfl
  | [], _ :: _, h, _ => by cases h
  | _ :: _, [], _, h => by cases h
  | x :: a, y :: b, h, h' => by
    unfold ltCps at h h'
    have := lt_conn a b
    grind
theorem lt_trans : ∀ a b c : List Nat, ltCps a b = true → ltCps b c = true → ltCps a c = true
  | [], [], _, h, _ => by cases h
  | _ :: _, [], _, h, _ => by cases h
  | _, _ :: _, [], _, h => by cases h
  | [], _ :: _, _ :: _, _, _ => rfl
  | x :: a, y :: b, z :: c, h, h' => by
    unfold ltCps at h h' ⊢
    have := lt_trans a b c
    grind
/-- a ≤ b by code points -/
def leS (a b : Str) : Bool := !ltCps b.cps.toList a.cps.toList
theorem leS_refl (a : Str) : leS a a = true := by unfold leS; rw [lt_irr]; rfl
theorem leS_total (a b : Str) : leS a b = true ∨ leS b a = true := by
  unfold leS
  cases h : ltCps b.cps.toList a.cps.toList with
  | false => exact .inl rfl
  | true => rw [lt_asym _ _ h]; exact .inr rfl
theorem leS_anti {a b : Str} (h1 : leS a b = true) (h2 : leS b a = true) : a = b := by
  unfold leS at h1 h2
  have := lt_conn a.cps.toList b.cps.toList (by simpa using h2) (by simpa using h1)
  cases a; cases b
  congr
  exact Array.ext' this
theorem leS_trans {a b c : Str} (h1 : leS a b = true) (h2 : leS b c = true) : leS a c = true := by
  unfold leS at *
  have h1 : ltCps b.cps.toList a.cps.toList = false := by simpa using h1
  have h2 : ltCps c.cps.toList b.cps.toList = false := by simpa using h2
  cases h : ltCps c.cps.toList a.cps.toList with
  | false => rfl
  | true =>
    exfalso
    cases h3 : ltCps a.cps.toList b.cps.toList with
    | true => rw [lt_trans _ _ _ h h3] at h2; cases h2
    | false =>
      rw [lt_conn _ _ h3 h1] at h
      rw [h] at h2
      cases h2
def SrtS (l : List Str) : Prop := l.Pairwise fun a b => leS a b = true
theorem srt_of_sortedS : ∀ l : List Str, sortedS l = true → SrtS l
  | [], _ => .nil
  | [a], _ => List.pairwise_singleton _ _
  | a :: b :: l, h => by
    have h : (!ltCps b.cps.toList a.cps.toList && risingS b l) = true := h
    have h := Bool.and_eq_true_iff.mp h
    have ih := srt_of_sortedS (b :: l) h.2
    refine .cons (fun c hc => ?_) ih
    rcases List.mem_cons.mp hc with rfl | hc
    · exact h.1
    · exact leS_trans h.1 ((List.pairwise_cons.mp ih).1 c hc)
theorem srt_unique : ∀ {l m : List Str}, l.Perm m → SrtS l → SrtS m → l = m
  | [], m, p, _, _ => (List.nil_perm.mp p).symm
  | a :: l, [], p, _, _ => by simpa using p.length_eq
  | a :: l, b :: m, p, hl, hm => by
    have hl' := List.pairwise_cons.mp hl
    have hm' := List.pairwise_cons.mp hm
    have e : a = b := by
      have ha : a ∈ b :: m := p.mem_iff.mp List.mem_cons_self
      have hb : b ∈ a :: l := p.mem_iff.mpr List.mem_cons_self
      rcases List.mem_cons.mp ha with rfl | ha
      · rfl
      · rcases List.mem_cons.mp hb with e | hb
        · exact e.symm
        · exact leS_anti (hl'.1 b hb) (hm'.1 a ha)
    subst e
    rw [srt_unique (List.Perm.cons_inv p) hl'.2 hm'.2]
def insS (a : Str) : List Str → List Str
  | [] => [a]
  | b :: l => if leS a b then a :: b :: l else b :: insS a l
def sortS : List Str → List Str
  | [] => []
  | a :: l => insS a (sortS l)
theorem insS_perm (a : Str) : ∀ l, (insS a l).Perm (a :: l)
  | [] => .refl _
  | b :: l => by
    unfold insS
    split
    · exact .refl _
    · exact ((insS_perm a l).cons b).trans (.swap a b l)
theorem sortS_perm : ∀ l, (sortS l).Perm l
  | [] => .refl _
  | a :: l => (insS_perm a (sortS l)).trans ((sortS_perm l).cons a)
theorem insS_srt (a : Str) : ∀ l, SrtS l → SrtS (insS a l)
  | [], _ => List.pairwise_singleton _ _
  | b :: l, h => by
    have h' := List.pairwise_cons.mp h
    unfold insS
    split
    · rename_i hab
      refine .cons (fun c hc => ?_) h
      rcases List.mem_cons.mp hc with rfl | hc
      · exact hab
      · exact leS_trans hab (h'.1 c hc)
    · rename_i hab
      refine .cons (fun c hc => ?_) (insS_srt a l h'.2)
      rcases List.mem_cons.mp ((insS_perm a l).mem_iff.mp hc) with rfl | hc
      · exact (leS_total b c).resolve_right hab
      · exact h'.1 c hc
theorem sortS_srt : ∀ l, SrtS (sortS l)
  | [] => .nil
  | a :: l => insS_srt a _ (sortS_srt l)
theorem sortS_eq {l m : List Str} (p : m.Perm l) (h : sortedS m = true) : m = sortS l := srt_unique (p.trans (sortS_perm l).symm) (srt_of_sortedS m h) (sortS_srt l)
end PV

/-! PvA: plain data, code, an evaluator of code over plain data (lists that a name owns are changed in place). -/
namespace PV
open PySem L2

/-- plain data -/
inductive D where
  | non | bl (b : Bool) | int (i : Int) | str (s : Str)
  | lst (l : List D) | tup (l : List D) | dct (ks : List Key) (vs : List D) | dcT (ks : List (List Key)) (vs : List D) | obj (c : Nat) (l : List D) | scr (l : List Int)
  deriving Inhabited
/-- what a name holds: nothing, a thing that is never changed any more, a thing that this name alone holds -/
inductive Sl where
  | un | fz (d : D) | ow (d : D)
/-- a value: never changed any more; new; what the name i holds -/
inductive RV where
  | fz (d : D) | ow (d : D) | bor (i : Nat)
abbrev Rho := List Sl
inductive R (α : Type) where
  | ok (a : α) (ρ : Rho)
  | fail
def R.bind {α β : Type} : R α → (α → Rho → R β) → R β
  | .ok a ρ, f => f a ρ
  | .fail, _ => .fail
@[simp] theorem R.bind_ok {α β : Type} (a : α) (ρ : Rho) (f : α → Rho → R β) : (R.ok a ρ).bind f = f a ρ := rfl
@[simp] theorem R.bind_fail {α β : Type} (f : α → Rho → R β) : (R.fail : R α).bind f = .fail := rfl
/-- a call's end: the value, what the parameters hold -/
inductive CRes where
  | ok (r : RV) (ps : List Sl)
  | fail
/-- a statement's end -/
inductive O where
  | next (ρ : Rho) | ret (r : RV) (ρ : Rho) | brk (ρ : Rho) | cont (ρ : Rho) | fail

/-- an own class: its name, whether it has slots, its fields in the order in which __init__ stores them -/
structure Cls where
  name : Str
  slots : Bool
  flds : List Str
  exc : Bool := false
  /-- an exception's class and the classes above it -/
  sup : List Str := []
def excC (n : Str) (fl : List Str) (sup : List Str) : Cls := ⟨n, false, fl, true, n :: (sup ++ (["Exception", "BaseException", "object"] : List Str))⟩
def clsT : List Cls := [⟨"Held", true, ["own_places", "own_ahead"], false, []⟩, ⟨"Order", false, ["own_places", "own_ahead", "own_behind", "own_pairs", "own_steps"], false, []⟩,
  excC "OrderError" [] ["ValueError"], excC "InvalidOrder" [] ["OrderError", "ValueError"], excC "InvalidLot" [] ["OrderError", "ValueError"], excC "InvalidLineup" [] ["OrderError", "ValueError"],
  excC "InvalidOperation" [] ["OrderError", "ValueError"], excC "ParseError" ["line"] ["OrderError", "ValueError"], excC "UnknownPlace" ["place"] ["KeyError", "LookupError"],
  excC "InvalidNumber" ["value"] ["ArithmeticError"], excC "Circle" ["circle"] ["LookupError"], excC "TooMany" ["limit"] ["OverflowError", "ArithmeticError"],
  excC "NothingToUndo" ["many"] ["IndexError", "LookupError"], excC "Refused" ["reason"] ["RuntimeError"]]
mutual
def D.py : D → PyData
  | .non => .none
  | .bl b => .bool b
  | .int i => .int i
  | .str s => .str s
  | .lst l => .list (D.pys l)
  | .tup l => .tuple (D.pys l)
  | .dct _ _ => .none
  | .dcT _ _ => .none
  | .obj _ _ => .none
  | .scr _ => .none
def D.pys : List D → List PyData
  | [] => []
  | d :: l => d.py :: D.pys l
end
mutual
/-- nothing but None, bools, ints, texts, lists, tuples -/
def D.plain : D → Bool
  | .non | .bl _ | .int _ | .str _ => true
  | .lst l | .tup l => D.plains l
  | .dct _ _ | .dcT _ _ | .obj _ _ | .scr _ => false
def D.plains : List D → Bool
  | [] => true
  | d :: l => d.plain && D.plains l
end
def Key.py : Key → PyData
  | .inl i => .int i
  | .inr s => .str s
mutual
/-- data as it is shown: dicts, too -/
def D.rpy : D → PyData
  | .non => .none
  | .bl b => .bool b
  | .int i => .int i
  | .str s => .str s
  | .lst l => .list (D.rpys l)
  | .tup l => .tuple (D.rpys l)
  | .dct ks l => .dict ((ks.map Key.py).zip (D.rpys l))
  | _ => .none
def D.rpys : List D → List PyData
  | [] => []
  | d :: l => d.rpy :: D.rpys l
end
mutual
/-- None, bools, ints, texts, lists, tuples, dicts -/
def D.shw : D → Bool
  | .non | .bl _ | .int _ | .str _ => true
  | .lst l | .tup l => D.shws l
  | .dct ks l => ks.length == l.length && D.shws l
  | _ => false
def D.shws : List D → Bool
  | [] => true
  | d :: l => d.shw && D.shws l
end
/-- two plain things may be compared -/
def D.cmpOk (d : D) : Bool := d.plain && SeqAt.shaped d.py

/-- built-in functions of one argument -/
inductive Bi where
  | abs | int | len | all | list | tuple | sorted | any
  deriving DecidableEq
inductive Ty where
  | int | bool | str | tuple | list
  deriving DecidableEq

inductive C where
  | con (d : D) | slot (i : Nat)
  | bin (o : Operator) (a b : C) | neg (a : C)
  | notV (a : C) | andV (a b : C) | orV (a b : C)
  | cmp (o : CmpOp) (a b : C) | chain (o o' : CmpOp) (a b c : C) | isN (a : C) | isNotN (a : C)
  | ite (c a b : C)
  | tup (es : C) | lst (es : C)
  | call (f : Nat) (es : C) | call1 (f : Nat) (e : C) | callS (f : Nat) (es : C) | dict0 | lrng (it : C)
  | bi (b : Bi) (e : C) | bi2 (mx : Bool) (a b : C) | isi (t : Ty) (e : C)
  | sub (a b : C) | slc (a lo hi : C)
  | join (a b : C)
  | fld (c k : Nat) (e : C) | make (c f : Nat) (es : C) (dv : List Sl) | meth (c f : Nat) (e es : C) (dv : List Sl) | callD (f : Nat) (es : C) (dv : List Sl) | isiC (c : Nat) (e : C)
  | lApp (o : Nat) (e : C) | lPop (o : Nat) | lPopAt (o : Nat) (e : C) | lExt (o : Nat) (e : C)
  | inO (ng : Bool) (c f : Nat) (a b : C)
  | mkX (c : Nat) (es : C) | isiX (nm : Str) (e : C) | dsp (ks : List Str) (es : C) | callG (f : Nat) (es : C) | repr (e : C)
  | lc (elt tg it ifs : C) (vs : List Nat)
  | nil | cons (e es : C)
  | iVal (e : C) | iRng1 (e : C) | iRng2 (a b : C)
  | tName (i : Nat) | tTup (ts : C)
  | tNot (a : C) | tAnd (a b : C) | tOr (a b : C) | tVal (a : C)
  | sAsg (tg e : C) | sPar (i j : Nat) (a b : C) | sSub (o : Nat) (i e : C) | sFld (i c k : Nat) (e : C) | sAug (i : Nat) (o : Operator) (e : C)
  | sExpr (e : C) | sIf (c a b : C) | sFor (tg it body : C) | sWhile (c body : C) | sRet (e : C) | sRetN | sPass | sNever

/-- what is read of a value -/
def der (ρ : Rho) : RV → Option D
  | .fz d => some d
  | .ow d => some d
  | .bor i => match ρ[i]? with
    | some (.fz d) => some d
    | some (.ow d) => some d
    | _ => none
/-- never changed from now on -/
def toFz (ρ : Rho) : RV → R D
  | .fz d => .ok d ρ
  | .ow d => .ok d ρ
  | .bor i => match ρ[i]? with
    | some (.fz d) => .ok d ρ
    | some (.ow d) => .ok d (ρ.set i (.fz d))
    | _ => .fail

def seqD : D → Option (List D)
  | .lst l => some l
  | .tup l => some l
  | .str s => some (s.cps.toList.map fun c => .str ⟨#[c]⟩)
  | _ => none
def mulOk (i j : Int) : Bool := decide (i.natAbs < 2 ^ 64) || decide (j.natAbs < 2 ^ 64)
def divOk (j : Int) : Bool := decide (0 < j) && decide (j.natAbs.log2 < 9000)
def powOk (i j : Int) : Bool := decide (0 ≤ j) && decide ((Builtin.Int.intBits i : Int) * j ≤ 2 ^ 27)
def maxLen : Nat := 1000000
/-- a op b, by values -/
def binD : Operator → D → D → Option RV
  | .Add, .int i, .int j => some (.fz (.int (i + j)))
  | .Sub, .int i, .int j => some (.fz (.int (i - j)))
  | .Mult, .int i, .int j => if mulOk i j then some (.fz (.int (i * j))) else none
  | .FloorDiv, .int i, .int j => if divOk j then some (.fz (.int (i / j))) else none
  | .Mod, .int i, .int j => if 0 < j then some (.fz (.int (i % j))) else none
  | .Pow, .int i, .int j => if powOk i j then some (.fz (.int (i ^ j.toNat))) else none
  | .Add, .str x, .str y => if x.length + y.length ≤ maxLen then some (.fz (.str (x ++ y))) else none
  | .Add, .lst x, .lst y => if x.length + y.length ≤ maxLen then some (.ow (.lst (x ++ y))) else none
  | .Add, .tup x, .tup y => if x.length + y.length ≤ maxLen then some (.fz (.tup (x ++ y))) else none
  | .Mult, .lst x, .int k => if 0 ≤ k ∧ k ≤ maxLen ∧ x.length * k.toNat ≤ maxLen then some (.ow (.lst (List.flatten (List.replicate k.toNat x)))) else none
  | _, _, _ => none
def eqD (d e : D) : Option Bool := if d.cmpOk && e.cmpOk then some (PyData.eqv d.py e.py) else none
/-- data as a dict's key -/
def keyD : D → Option Key
  | .int i => some (.inl i)
  | .str s => some (.inr s)
  | _ => none
def keysD : List D → Option (List Key)
  | [] => some []
  | d :: l => (keyD d).bind fun k => (keysD l).map (k :: ·)
def keyT : D → Option (List Key)
  | .tup l => keysD l
  | _ => none
/-- what a dict holds at a key -/
def getK {κ : Type} [DecidableEq κ] : List κ → List D → κ → Option D
  | k' :: ks, d :: vs, k => if k' = k then some d else getK ks vs k
  | _, _, _ => none
/-- x in s: one sign of a text; an item of a list -/
def inD (d : D) : D → Option Bool
  | .str z => match d with
    | .str s => (match s.cps.toList with
      | [c] => some (decide (c ∈ z.cps.toList))
      | _ => none)
    | _ => none
  | .lst l => if d.cmpOk && (D.lst l).cmpOk then some (l.any fun z => PyData.eqv z.py d.py) else none
  | .dct ks _ => (keyD d).map fun (k : Key) => ks.any fun k2 => decide (k2 = k)
  | .dcT ks _ => (keyT d).map fun (k : List Key) => ks.any fun k2 => decide (k2 = k)
  | _ => none
def D.isNon : D → Bool
  | .non => true
  | _ => false
def isD : D → D → Option Bool
  | .bl a, .bl b => some (decide (a = b))
  | _, _ => none
def cmpD : CmpOp → D → D → Option Bool
  | .Eq, d, e => eqD d e
  | .NotEq, d, e => (eqD d e).map (!·)
  | .Lt, .int i, .int j => some (decide (i < j))
  | .LtE, .int i, .int j => some (decide (i ≤ j))
  | .Gt, .int i, .int j => some (decide (j < i))
  | .GtE, .int i, .int j => some (decide (j ≤ i))
  | .In, d, e => inD d e
  | .NotIn, d, e => (inD d e).map (!·)
  | .Is, d, e => isD d e
  | .IsNot, d, e => (isD d e).map (!·)
  | _, _, _ => none
def allB : List D → Option Bool
  | [] => some true
  | .bl b :: l => (allB l).map (b && ·)
  | _ :: _ => none
def anyB : List D → Option Bool
  | [] => some false
  | .bl b :: l => (anyB l).map (b || ·)
  | _ :: _ => none
def strsD : List D → Option (List Str)
  | [] => some []
  | .str s :: l => (strsD l).map (s :: ·)
  | _ :: _ => none
def D.isRef : D → Bool
  | .lst _ | .tup _ => true
  | _ => false
def reprD (d : D) : Option D := if d.isRef && d.shw && d.rpy.showable && decide (d.rpy.depth < 20) && decide (d.rpy.shown.length ≤ maxLen) then some (.str d.rpy.shown) else none
def biD : Bi → D → Option RV
  | .abs, .int i => some (.fz (.int (if i < 0 then -i else i)))
  | .int, .int i => some (.fz (.int i))
  | .int, .bl b => some (.fz (.int (if b then 1 else 0)))
  | .len, .lst l => some (.fz (.int l.length))
  | .len, .tup l => some (.fz (.int l.length))
  | .len, .scr l => some (.fz (.int l.length))
  | .len, .str s => if s.length ≤ maxLen then some (.fz (.int s.length)) else none
  | .all, .lst l => (allB l).map fun b => .fz (.bl b)
  | .list, .lst l => some (.ow (.lst l))
  | .list, .tup l => some (.ow (.lst l))
  | .list, .str s => if s.length ≤ maxLen then some (.ow (.lst (s.cps.toList.map fun c => .str ⟨#[c]⟩))) else none
  | .tuple, .lst l => some (.fz (.tup l))
  | .tuple, .tup l => some (.fz (.tup l))
  | .sorted, .lst l => (strsD l).bind fun ss => if ss.length < 64 then some (.ow (.lst ((sortS ss).map .str))) else none
  | .sorted, .tup l => (strsD l).bind fun ss => if ss.length < 64 then some (.ow (.lst ((sortS ss).map .str))) else none
  | .any, .lst l => (anyB l).map fun b => .fz (.bl b)
  | _, _ => none
def isiD : Ty → D → Option Bool
  | _, .obj _ _ => none
  | _, .scr _ => none
  | _, .dcT _ _ => none
  | .int, .int _ => some true
  | .int, .bl _ => some true
  | .bool, .bl _ => some true
  | .str, .str _ => some true
  | .tuple, .tup _ => some true
  | .list, .lst _ => some true
  | _, _ => some false
/-- the place of an index -/
def ixD (n : Nat) (i : Int) : Option Nat :=
  if 0 ≤ i then (if i < n then some i.toNat else none) else (if -(n : Int) ≤ i then some (i + n).toNat else none)
def subD : D → D → Option D
  | .lst l, .int i => (ixD l.length i).bind fun k => l[k]?
  | .tup l, .int i => (ixD l.length i).bind fun k => l[k]?
  | .scr l, .int i => (ixD l.length i).bind fun k => (l[k]?).map .int
  | .dct ks vs, d => (keyD d).bind (getK ks vs)
  | .dcT ks vs, d => (keyT d).bind (getK ks vs)
  | _, _ => none
def bndD (n : Nat) (dflt : Nat) : Option D → Option Nat
  | none => some dflt
  | some (.int i) => some (if i < 0 then (i + (n : Int)).toNat else min i.toNat n)
  | _ => none
def cutD (l : List D) (lo hi : Nat) : List D := (l.drop lo).take (hi - lo)
def slcD (d : D) (lo hi : Option D) : Option RV :=
  match d with
  | .lst l => (bndD l.length 0 lo).bind fun a => (bndD l.length l.length hi).bind fun b => some (.ow (.lst (cutD l a b)))
  | .tup l => (bndD l.length 0 lo).bind fun a => (bndD l.length l.length hi).bind fun b => some (.fz (.tup (cutD l a b)))
  | _ => none
def joinD (s : Str) (b : D) : Option D :=
  match b with
  | .lst l => (strsD l).bind fun ys => if (ys.map Str.length).sum + ys.length * s.length ≤ maxLen then some (.str (Txt.join s ys)) else none
  | _ => none

def rngD (i : Int) (n : Nat) : List D := (List.range n).map fun (k : Nat) => .int (i + (k : Int))
/-- is the slot free to be written -/
def setSl (np i : Nat) (s : Sl) (ρ : Rho) : Option Rho := if np ≤ i ∧ i < ρ.length then some (ρ.set i s) else none
mutual
def bindT (np : Nat) : C → D → Rho → Option Rho
  | .tName i, d, ρ => setSl np i (.fz d) ρ
  | .tTup ts, d, ρ => match d with
    | .tup l => bindTs np ts l ρ
    | _ => none
  | _, _, _ => none
def bindTs (np : Nat) : C → List D → Rho → Option Rho
  | .nil, [], ρ => some ρ
  | .cons t ts, d :: l, ρ => (bindT np t d ρ).bind fun ρ => bindTs np ts l ρ
  | _, _, _ => none
end
def wipeS (ρ : Rho) : List Nat → Rho
  | [] => ρ
  | v :: vs => (wipeS ρ vs).set v .un
/-- the names of a comprehension come back -/
def backS (ρ0 ρ : Rho) : List Nat → Rho
  | [] => ρ
  | v :: vs => match ρ0[v]? with
    | some s => (backS ρ0 ρ vs).set v s
    | none => backS ρ0 ρ vs
def isOw : Option Sl → Bool
  | some (.ow _) => true
  | _ => false
def lcL (bd : D → Rho → Option Rho) (tt : Rho → R Bool) (ee : Rho → R RV) (vs : List Nat) : List D → List D → Rho → R (List D)
  | [], acc, ρ => .ok acc ρ
  | d :: ds, acc, ρ => match bd d ρ with
    | none => .fail
    | some ρ1 => (tt ρ1).bind fun b ρ2 => if b then (ee ρ2).bind fun r ρ3 => (toFz ρ3 r).bind fun y ρ4 => if acc.length < maxLen then lcL bd tt ee vs ds (acc ++ [y]) (wipeS ρ4 vs) else .fail
      else lcL bd tt ee vs ds acc (wipeS ρ2 vs)
def forL (bd : D → Rho → Option Rho) (body : Rho → O) : List D → Rho → O
  | [], ρ => .next ρ
  | d :: ds, ρ => match bd d ρ with
    | none => .fail
    | some ρ1 => match body ρ1 with
      | .next ρ2 => forL bd body ds ρ2
      | .cont ρ2 => forL bd body ds ρ2
      | .brk ρ2 => .next ρ2
      | .ret r ρ2 => .ret r ρ2
      | .fail => .fail
def whlL (tt : Rho → R Bool) (body : Rho → O) : Nat → Rho → O
  | 0, _ => .fail
  | n + 1, ρ => match tt ρ with
    | .fail => .fail
    | .ok false ρ1 => .next ρ1
    | .ok true ρ1 => match body ρ1 with
      | .next ρ2 => whlL tt body n ρ2
      | .cont ρ2 => whlL tt body n ρ2
      | .brk ρ2 => .next ρ2
      | .ret r ρ2 => .ret r ρ2
      | .fail => .fail
def whlMax : Nat := 1000000000000000000000000000000
/-- an argument: what the name i holds, or a value -/
inductive Ar where
  | slot (i : Nat) | val (d : D)
def arSl (ρ : Rho) : List Ar → Option (List Sl)
  | [] => some []
  | .val d :: l => (arSl ρ l).map (.fz d :: ·)
  | .slot i :: l => match ρ[i]? with
    | some (.fz d) => (arSl ρ l).map (.fz d :: ·)
    | some (.ow d) => (arSl ρ l).map (.ow d :: ·)
    | _ => none
/-- no owned name is handed on twice -/
def arNd (ρ : Rho) : List Ar → Bool
  | [] => true
  | .val _ :: l => arNd ρ l
  | .slot i :: l => (!isOw ρ[i]? || l.all fun | .slot j => j != i | .val _ => true) && arNd ρ l
/-- behind a call -/
def arBack : List Ar → List Sl → Rho → Option Rho
  | [], [], ρ => some ρ
  | .val _ :: l, _ :: ps, ρ => arBack l ps ρ
  | .slot i :: l, p :: ps, ρ => match ρ[i]? with
    | some (.ow _) => (match p with
      | .un => none
      | p => arBack l ps (ρ.set i p))
    | _ => arBack l ps ρ
  | _, _, _ => none
def callR (r : CRes) (as : List Ar) (ρ : Rho) : R RV :=
  match r with
  | .fail => .fail
  | .ok r ps => match arBack as ps ρ with
    | none => .fail
    | some ρ' => match r with
      | .bor _ => .fail
      | r => .ok r ρ'
/-- an end of a slice -/
def optR (c : C) (r : R RV) (ρ : Rho) : R (Option D) :=
  match c with
  | .nil => .ok none ρ
  | _ => r.bind fun x ρ => match x with
    | .fz (.int i) => .ok (some (.int i)) ρ
    | _ => .fail
def ofO {α : Type} (o : Option α) (ρ : Rho) : R α :=
  match o with
  | some a => .ok a ρ
  | none => .fail
@[simp] theorem ofO_some {α : Type} (a : α) (ρ : Rho) : ofO (some a) ρ = .ok a ρ := rfl
@[simp] theorem ofO_none {α : Type} (ρ : Rho) : ofO (none : Option α) ρ = .fail := rfl
def ob2 {α : Type} (a b : Option D) (f : D → D → Option α) : Option α := a.bind fun x => b.bind fun y => f x y

def setK {κ : Type} [DecidableEq κ] (k : κ) (d : D) : List κ → List D → List D
  | k' :: ks, v :: vs => (if k' = k then d else v) :: setK k d ks vs
  | _, _ => []
/-- a dict's keys, values behind a store -/
def putKk {κ : Type} [DecidableEq κ] (k : κ) (ks : List κ) : List κ := if (ks.any fun k2 => decide (k2 = k)) = true then ks else ks ++ [k]
def putKv {κ : Type} [DecidableEq κ] (k : κ) (d : D) (ks : List κ) (vs : List D) : List D := if (ks.any fun k2 => decide (k2 = k)) = true then setK k d ks vs else vs ++ [d]
/-- name[dk] = d -/
def subPut (o : Nat) (dk d : D) (s : Option Sl) (ρ : Rho) : O :=
  match s with
  | some (.ow (.lst l)) => (match dk with
    | .int k => (match ixD l.length k with
      | some k => .next (ρ.set o (.ow (.lst (l.set k d))))
      | none => .fail)
    | _ => .fail)
  | some (.ow (.dct ks vs)) => (match keyD dk with
    | some k => if ks.length < maxLen then .next (ρ.set o (.ow (.dct (putKk k ks) (putKv k d ks vs)))) else .fail
    | none => .fail)
  | some (.ow (.dcT ks vs)) => (match keyT dk with
    | some k => if ks.length < maxLen then .next (ρ.set o (.ow (.dcT (putKk k ks) (putKv k d ks vs)))) else .fail
    | none => .fail)
  | _ => .fail
def isOwL : Option Sl → Bool
  | some (.ow (.lst _)) => true
  | _ => false
def appR (o : Nat) (d : D) (s : Option Sl) (ρ : Rho) : R RV :=
  match s with
  | some (.ow (.lst l)) => if l.length < maxLen then .ok (.fz .non) (ρ.set o (.ow (.lst (l ++ [d])))) else .fail
  | _ => .fail
def popR (o : Nat) (s : Option Sl) (ρ : Rho) : R RV :=
  match s with
  | some (.ow (.lst l)) => (match l[l.length - 1]? with
    | some d => .ok (.fz d) (ρ.set o (.ow (.lst l.dropLast)))
    | none => .fail)
  | _ => .fail
def popAtR (o : Nat) (x : RV) (s : Option Sl) (ρ : Rho) : R RV :=
  match x, s with
  | .fz (.int i), some (.ow (.lst l)) => if l.length ≤ maxLen then (match ixD l.length i with
    | some k => (match l[k]? with
      | some d => .ok (.fz d) (ρ.set o (.ow (.lst (l.eraseIdx k))))
      | none => .fail)
    | none => .fail) else .fail
  | _, _ => .fail
def extR (o : Nat) (d : Option D) (s : Option Sl) (ρ : Rho) : R RV :=
  match d, s with
  | some (.lst m), some (.ow (.lst l)) => if l.length + m.length ≤ maxLen then .ok (.fz .non) (ρ.set o (.ow (.lst (l ++ m)))) else .fail
  | _, _ => .fail
/-- the field k of an object of the class c -/
def fldD (c k : Nat) : D → Option D
  | .obj c' l => if c' = c then l[k]? else none
  | _ => none
/-- is it an object of the class c -/
def isiCD (c : Nat) : D → Option Bool
  | .obj c' _ => match clsT[c']? with
    | some ci => if ci.exc then none else some (decide (c' = c))
    | none => none
  | .scr _ => none
  | .dcT _ _ => none
  | _ => some false
/-- a new exception -/
def mkXD (c : Nat) (l : List D) : Option D := (clsT[c]?).bind fun ci => if ci.exc then (if ci.flds.length = 0 then (if l.length ≤ 1000 then some (.obj c []) else none) else if ci.flds.length = 1 ∧ l.length = 1 then some (.obj c l) else none) else none
/-- is it an exception of the class of this name -/
def isiXD (nm : Str) : D → Option Bool
  | .obj c _ => (clsT[c]?).bind fun ci => if ci.exc then some (ci.sup.contains nm) else none
  | _ => none
def isOb (c : Nat) : D → Bool
  | .obj c' _ => decide (c' = c)
  | _ => false
/-- a call's value, where nothing comes back of the arguments -/
def resO (r : CRes) (ρ : Rho) : R RV :=
  match r with
  | .ok (.fz d) _ => .ok (.fz d) ρ
  | .ok (.ow d) _ => .ok (.ow d) ρ
  | _ => .fail
def ngR (ng : Bool) (x : RV) (ρ : Rho) : R RV :=
  match x with
  | .fz (.bl b) => .ok (.fz (.bl (if ng then !b else b))) ρ
  | _ => .fail
/-- the new object behind __init__ -/
def mkO (r : CRes) (ρ : Rho) : R RV :=
  match r with
  | .ok (.fz .non) (.ow d :: _) => .ok (.ow d) ρ
  | .ok (.fz .non) (.fz d :: _) => .ok (.fz d) ρ
  | _ => .fail
section
variable (np : Nat) (cf : Nat → List Sl → CRes)
mutual
def evE : C → Rho → R RV
  | .con d, ρ => .ok (.fz d) ρ
  | .slot i, ρ => match ρ[i]? with
    | some (.fz d) => .ok (.fz d) ρ
    | some (.ow _) => .ok (.bor i) ρ
    | _ => .fail
  | .bin o a b, ρ => (evE a ρ).bind fun x ρ => (evE b ρ).bind fun y ρ => ofO (ob2 (der ρ x) (der ρ y) (binD o)) ρ
  | .neg a, ρ => (evE a ρ).bind fun x ρ => match der ρ x with
    | some (.int i) => .ok (.fz (.int (-i))) ρ
    | _ => .fail
  | .notV a, ρ => (evE a ρ).bind fun x ρ => match x with
    | .fz (.bl b) => .ok (.fz (.bl (!b))) ρ
    | _ => .fail
  | .andV a b, ρ => (evE a ρ).bind fun x ρ => match x with
    | .fz (.bl true) => evE b ρ
    | .fz (.bl false) => .ok (.fz (.bl false)) ρ
    | _ => .fail
  | .orV a b, ρ => (evE a ρ).bind fun x ρ => match x with
    | .fz (.bl false) => evE b ρ
    | .fz (.bl true) => .ok (.fz (.bl true)) ρ
    | _ => .fail
  | .cmp o a b, ρ => (evE a ρ).bind fun x ρ => (evE b ρ).bind fun y ρ => (ofO (ob2 (der ρ x) (der ρ y) (cmpD o)) ρ).bind fun b ρ => .ok (.fz (.bl b)) ρ
  | .isN a, ρ => (evE a ρ).bind fun x ρ => (ofO (der ρ x) ρ).bind fun d ρ => .ok (.fz (.bl d.isNon)) ρ
  | .isNotN a, ρ => (evE a ρ).bind fun x ρ => (ofO (der ρ x) ρ).bind fun d ρ => .ok (.fz (.bl (!d.isNon))) ρ
  | .chain o o' a b c, ρ => (evE a ρ).bind fun x ρ => (evE b ρ).bind fun y ρ => (ofO (ob2 (der ρ x) (der ρ y) (cmpD o)) ρ).bind fun k ρ =>
      if k then (evE c ρ).bind fun z ρ => (ofO (ob2 (der ρ y) (der ρ z) (cmpD o')) ρ).bind fun k ρ => .ok (.fz (.bl k)) ρ else .ok (.fz (.bl false)) ρ
  | .ite c a b, ρ => (evT c ρ).bind fun k ρ => if k then evE a ρ else evE b ρ
  | .tup es, ρ => (evEs es ρ).bind fun l ρ => if l.length ≤ maxLen then .ok (.fz (.tup l)) ρ else .fail
  | .lst es, ρ => (evEs es ρ).bind fun l ρ => if l.length ≤ maxLen then .ok (.ow (.lst l)) ρ else .fail
  | .call f es, ρ => (evAs es ρ).bind fun as ρ => if arNd ρ as then (match arSl ρ as with
    | none => .fail
    | some ps => callR (cf f ps) as ρ) else .fail
  | .call1 f e, ρ => (evE e ρ).bind fun x ρ => match x with
    | .ow d => (match cf f [.ow d] with
      | .ok (.fz d) _ => .ok (.fz d) ρ
      | .ok (.ow d) _ => .ok (.ow d) ρ
      | _ => .fail)
    | .fz d => (match cf f [.fz d] with
      | .ok (.fz d) _ => .ok (.fz d) ρ
      | .ok (.ow d) _ => .ok (.ow d) ρ
      | _ => .fail)
    | .bor _ => .fail
  | .callS f es, ρ => (evEs es ρ).bind fun l ρ => if l.length ≤ maxLen then (match cf f [.fz (.tup l)] with
      | .ok (.fz d) _ => .ok (.fz d) ρ
      | .ok (.ow d) _ => .ok (.ow d) ρ
      | _ => .fail) else .fail
  | .dict0, ρ => .ok (.ow (.dct [] [])) ρ
  | .lrng it, ρ => (evI it ρ).bind fun ds ρ => if ds.length ≤ maxLen then .ok (.ow (.lst ds)) ρ else .fail
  | .bi b e, ρ => (evE e ρ).bind fun x ρ => ofO ((der ρ x).bind (biD b)) ρ
  | .bi2 mx a b, ρ => (evE a ρ).bind fun x ρ => (evE b ρ).bind fun y ρ => match x, y with
    | .fz (.int i), .fz (.int j) => .ok (.fz (.int (if mx then (if j > i then j else i) else (if j < i then j else i)))) ρ
    | _, _ => .fail
  | .isi t e, ρ => (evE e ρ).bind fun x ρ => (ofO ((der ρ x).bind (isiD t)) ρ).bind fun b ρ => .ok (.fz (.bl b)) ρ
  | .sub a b, ρ => (evE a ρ).bind fun x ρ => (evE b ρ).bind fun y ρ => (ofO (ob2 (der ρ x) (der ρ y) subD) ρ).bind fun d ρ => .ok (.fz d) ρ
  | .slc a lo hi, ρ => (evE a ρ).bind fun x ρ => (optR lo (evE lo ρ) ρ).bind fun l ρ => (optR hi (evE hi ρ) ρ).bind fun h ρ => ofO ((der ρ x).bind fun d => slcD d l h) ρ
  | .join a b, ρ => (evE a ρ).bind fun x ρ => match x with
    | .fz (.str s) => (evE b ρ).bind fun y ρ => (ofO ((der ρ y).bind (joinD s)) ρ).bind fun d ρ => .ok (.fz d) ρ
    | _ => .fail
  | .fld c k e, ρ => (evE e ρ).bind fun x ρ => (ofO ((der ρ x).bind (fldD c k)) ρ).bind fun d ρ => .ok (.fz d) ρ
  | .isiC c e, ρ => (evE e ρ).bind fun x ρ => (ofO ((der ρ x).bind (isiCD c)) ρ).bind fun b ρ => .ok (.fz (.bl b)) ρ
  | .make c f es dv, ρ => (evEs es ρ).bind fun l ρ => mkO (cf f (.ow (.obj c []) :: (l.map .fz ++ dv))) ρ
  | .meth c f e es dv, ρ => (evE e ρ).bind fun r ρ => (toFz ρ r).bind fun d ρ => if isOb c d then (evEs es ρ).bind fun l ρ => resO (cf f (.fz d :: (l.map .fz ++ dv))) ρ else .fail
  | .callD f es dv, ρ => (evEs es ρ).bind fun l ρ => resO (cf f (l.map .fz ++ dv)) ρ
  | .mkX c es, ρ => (evEs es ρ).bind fun l ρ => (ofO (mkXD c l) ρ).bind fun d ρ => .ok (.fz d) ρ
  | .isiX nm e, ρ => (evE e ρ).bind fun x ρ => (ofO ((der ρ x).bind (isiXD nm)) ρ).bind fun b ρ => .ok (.fz (.bl b)) ρ
  | .dsp ks es, ρ => (evEs es ρ).bind fun l ρ => if ks.length = l.length ∧ ks.Nodup ∧ l.length ≤ 15 then .ok (.ow (.dct (ks.map .inr) l)) ρ else .fail
  | .repr e, ρ => (evE e ρ).bind fun x ρ => (ofO ((der ρ x).bind reprD) ρ).bind fun d ρ => .ok (.fz d) ρ
  | .callG f es, ρ => (evAs es ρ).bind fun as ρ => if arNd ρ as then (match arSl ρ as with
    | none => .fail
    | some ps => callR (cf f ps) as ρ) else .fail
  | .inO ng c f a b, ρ => (evE a ρ).bind fun r ρ => (toFz ρ r).bind fun d ρ => (evE b ρ).bind fun r ρ => (toFz ρ r).bind fun o ρ => if isOb c o then (resO (cf f [.fz o, .fz d]) ρ).bind (ngR ng) else .fail
  | .lApp o e, ρ => if isOwL ρ[o]? then (evE e ρ).bind fun r ρ => (toFz ρ r).bind fun d ρ => appR o d ρ[o]? ρ else .fail
  | .lPop o, ρ => popR o ρ[o]? ρ
  | .lPopAt o e, ρ => if isOwL ρ[o]? then (evE e ρ).bind fun x ρ => popAtR o x ρ[o]? ρ else .fail
  | .lExt o e, ρ => if isOwL ρ[o]? then (evE e ρ).bind fun x ρ => extR o (der ρ x) ρ[o]? ρ else .fail
  | .lc elt tg it ifs vs, ρ => (evI it ρ).bind fun ds ρ1 => if vs.any (fun v => isOw ρ1[v]? || decide (v < np)) then .fail else
      (lcL (bindT np tg) (evT ifs) (evE elt) vs ds [] (wipeS ρ1 vs)).bind fun acc ρ2 => .ok (.ow (.lst acc)) (backS ρ1 ρ2 vs)
  | _, _ => .fail
/-- items: each is never changed from then on -/
def evEs : C → Rho → R (List D)
  | .nil, ρ => .ok [] ρ
  | .cons e es, ρ => (evE e ρ).bind fun r ρ => (toFz ρ r).bind fun d ρ => (evEs es ρ).bind fun l ρ => .ok (d :: l) ρ
  | _, _ => .fail
/-- arguments -/
def evAs : C → Rho → R (List Ar)
  | .nil, ρ => .ok [] ρ
  | .cons e es, ρ => match e with
    | .slot i => (match ρ[i]? with
      | some (.fz _) | some (.ow _) => (evAs es ρ).bind fun l ρ => .ok (.slot i :: l) ρ
      | _ => .fail)
    | e => (evE e ρ).bind fun r ρ => (toFz ρ r).bind fun d ρ => (evAs es ρ).bind fun l ρ => .ok (.val d :: l) ρ
  | _, _ => .fail
/-- a test -/
def evT : C → Rho → R Bool
  | .nil, ρ => .ok true ρ
  | .tNot a, ρ => (evT a ρ).bind fun b ρ => .ok (!b) ρ
  | .tAnd a b, ρ => (evT a ρ).bind fun k ρ => if k then evT b ρ else .ok false ρ
  | .tOr a b, ρ => (evT a ρ).bind fun k ρ => if k then .ok true ρ else evT b ρ
  | .tVal e, ρ => (evE e ρ).bind fun x ρ => match x with
    | .fz (.bl b) => .ok b ρ
    | _ => .fail
  | _, _ => .fail
/-- what is walked -/
def evI : C → Rho → R (List D)
  | .iVal e, ρ => (evE e ρ).bind fun r ρ => (toFz ρ r).bind fun d ρ => ofO (seqD d) ρ
  | .iRng1 e, ρ => (evE e ρ).bind fun x ρ => match x with
    | .fz (.int j) => if -(2 ^ 62) ≤ j ∧ j < 2 ^ 62 then .ok (rngD 0 j.toNat) ρ else .fail
    | _ => .fail
  | .iRng2 a b, ρ => (evE a ρ).bind fun x ρ => (evE b ρ).bind fun y ρ => match x, y with
    | .fz (.int i), .fz (.int j) => if -(2 ^ 62) ≤ i ∧ i < 2 ^ 62 ∧ -(2 ^ 62) ≤ j ∧ j < 2 ^ 62 then .ok (rngD i (j - i).toNat) ρ else .fail
    | _, _ => .fail
  | _, _ => .fail
end
/-- what a name will hold -/
def settle (ρ : Rho) (r : RV) : R Sl :=
  match r with
  | .ow d => .ok (.ow d) ρ
  | r => (toFz ρ r).bind fun d ρ => .ok (.fz d) ρ
/-- a name is given a value -/
def asgN (i : Nat) (r : RV) (ρ : Rho) : O :=
  match settle ρ r with
  | .ok s ρ => (match setSl np i s ρ with | some ρ => .next ρ | none => .fail)
  | .fail => .fail
def retR (r : RV) (ρ : Rho) : O :=
  match r with
  | .ow d => .ret (.ow d) ρ
  | .fz d => .ret (.fz d) ρ
  | .bor i => match ρ[i]? with
    | some (.fz d) => .ret (.fz d) ρ
    | some (.ow d) => if np ≤ i then .ret (.ow d) (ρ.set i .un) else .ret (.fz d) (ρ.set i (.fz d))
    | _ => .fail
mutual
def evS : C → Rho → O
  | .sPass, ρ => .next ρ
  | .sExpr e, ρ => match evE np cf e ρ with
    | .ok _ ρ => .next ρ
    | .fail => .fail
  | .sAsg tg e, ρ => match evE np cf e ρ with
    | .ok r ρ => (match tg with
      | .tName i => asgN np i r ρ
      | tg => match toFz ρ r with
        | .ok d ρ => (match bindT np tg d ρ with | some ρ => .next ρ | none => .fail)
        | .fail => .fail)
    | .fail => .fail
  | .sPar i j a b, ρ => match evE np cf a ρ with
    | .ok x ρ => (match evE np cf b ρ with
      | .ok y ρ => (match settle ρ x with
        | .ok sx ρ => (match settle ρ y with
          | .ok sy ρ => (match (setSl np i sx ρ).bind (setSl np j sy) with | some ρ => .next ρ | none => .fail)
          | .fail => .fail)
        | .fail => .fail)
      | .fail => .fail)
    | .fail => .fail
  | .sSub o i e, ρ => match evE np cf e ρ with
    | .ok r ρ => (match toFz ρ r with
      | .ok d ρ => if isOw ρ[o]? then (match evE np cf i ρ with
        | .ok (.fz dk) ρ => subPut o dk d ρ[o]? ρ
        | _ => .fail) else .fail
      | .fail => .fail)
    | .fail => .fail
  | .sFld i c k e, ρ => match evE np cf e ρ with
    | .ok r ρ => (match toFz ρ r with
      | .ok d ρ => (match ρ[i]? with
        | some (.ow (.obj c' l)) => if c' = c ∧ l.length = k then .next (ρ.set i (.ow (.obj c (l ++ [d])))) else .fail
        | _ => .fail)
      | .fail => .fail)
    | .fail => .fail
  | .sAug i o e, ρ => match ρ[i]? with
    | some (.fz x) => (match evE np cf e ρ with
      | .ok (.fz y) ρ => (match binD o x y with
        | some (.fz z) => (match setSl np i (.fz z) ρ with | some ρ => .next ρ | none => .fail)
        | _ => .fail)
      | _ => .fail)
    | _ => .fail
  | .sIf c a b, ρ => match evT np cf c ρ with
    | .ok k ρ => if k then evSs a ρ else evSs b ρ
    | .fail => .fail
  | .sFor tg it body, ρ => match evI np cf it ρ with
    | .ok ds ρ => forL (bindT np tg) (evSs body) ds ρ
    | .fail => .fail
  | .sWhile c body, ρ => whlL (evT np cf c) (evSs body) whlMax ρ
  | .sRet e, ρ => match evE np cf e ρ with
    | .ok r ρ => retR np r ρ
    | .fail => .fail
  | .sRetN, ρ => .ret (.fz .non) ρ
  | _, _ => .fail
def evSs : C → Rho → O
  | .nil, ρ => .next ρ
  | .cons s ss, ρ => match evS s ρ with
    | .next ρ => evSs ss ρ
    | o => o
  | _, _ => .fail
end
end
/-- a def: its parameters' number, its names' number, its body -/
structure Fn where
  np : Nat
  nn : Nat
  body : C
def endO (np : Nat) : O → CRes
  | .next ρ => .ok (.fz .non) (ρ.take np)
  | .ret r ρ => .ok r (ρ.take np)
  | _ => .fail
def runF (cf : Nat → List Sl → CRes) (f : Fn) (ps : List Sl) : CRes :=
  if ps.length = f.np then endO f.np (evSs f.np cf f.body (ps ++ List.replicate (f.nn - f.np) .un)) else .fail
/-- the program's defs, run to the depth n -/
def run (fs : List Fn) : Nat → Nat → List Sl → CRes
  | 0, _, _ => .fail
  | n + 1, i, ps => match fs[i]? with
    | some f => runF (run fs n) f ps
    | none => .fail
end PV

/-! PvE: the evaluator's equations, for simp: a step is taken only where the names' words are written out. -/
namespace PV
open PySem L2
def R.bindO {α : Type} (r : R α) (f : α → Rho → O) : O :=
  match r with
  | .ok a ρ => f a ρ
  | .fail => .fail
def O.bindN (o : O) (f : Rho → O) : O :=
  match o with
  | .next ρ => f ρ
  | o => o
section
variable {α β : Type} {a : α} {ρ : Rho} {f : α → Rho → O} {g : Rho → O} {r : RV}
@[simp] theorem bindO_ok : (R.ok a ρ).bindO f = f a ρ := rfl
@[simp] theorem bindO_fail : (R.fail : R α).bindO f = .fail := rfl
@[simp] theorem bindN_next : (O.next ρ).bindN g = g ρ := rfl
@[simp] theorem bindN_ret : (O.ret r ρ).bindN g = .ret r ρ := rfl
@[simp] theorem bindN_fail : (O.fail).bindN g = .fail := rfl
@[simp] theorem bindN_ite {c : Prop} [Decidable c] {x y : O} : (if c then x else y).bindN g = if c then x.bindN g else y.bindN g := by split <;> rfl
@[simp] theorem bind_ite {c : Prop} [Decidable c] {x y : R α} {h : α → Rho → R β} : (if c then x else y).bind h = if c then x.bind h else y.bind h := by split <;> rfl
@[simp] theorem bindO_ite {c : Prop} [Decidable c] {x y : R α} : (if c then x else y).bindO f = if c then x.bindO f else y.bindO f := by split <;> rfl
@[simp] theorem ofO_ite {c : Prop} [Decidable c] {x y : Option α} : ofO (if c then x else y) ρ = if c then ofO x ρ else ofO y ρ := by split <;> rfl
end
/-- a name is read -/
def slotR (i : Nat) (s : Option Sl) (ρ : Rho) : R RV :=
  match s with
  | some (.fz d) => .ok (.fz d) ρ
  | some (.ow _) => .ok (.bor i) ρ
  | _ => .fail
def slD : Option Sl → Option D
  | some (.fz d) => some d
  | some (.ow d) => some d
  | _ => none
def slFz (i : Nat) (s : Option Sl) (ρ : Rho) : R D :=
  match s with
  | some (.fz d) => .ok d ρ
  | some (.ow d) => .ok d (ρ.set i (.fz d))
  | _ => .fail
section
variable {i : Nat} {d d' : D} {ρ : Rho} {s : Sl}
@[simp] theorem slotR_fz : slotR i (some (.fz d)) ρ = .ok (.fz d) ρ := rfl
@[simp] theorem slotR_ow : slotR i (some (.ow d)) ρ = .ok (.bor i) ρ := rfl
@[simp] theorem slD_fz : slD (some (.fz d)) = some d := rfl
@[simp] theorem slD_ow : slD (some (.ow d)) = some d := rfl
@[simp] theorem slFz_fz : slFz i (some (.fz d)) ρ = .ok d ρ := rfl
@[simp] theorem slFz_ow : slFz i (some (.ow d)) ρ = .ok d (ρ.set i (.fz d)) := rfl
@[simp] theorem der_fz : der ρ (.fz d) = some d := rfl
@[simp] theorem der_ow : der ρ (.ow d) = some d := rfl
@[simp] theorem der_bor : der (s :: ρ) (.bor i) = slD (s :: ρ)[i]? := by
  unfold der slD
  rfl
@[simp] theorem toFz_fz : toFz ρ (.fz d) = .ok d ρ := rfl
@[simp] theorem toFz_ow : toFz ρ (.ow d) = .ok d ρ := rfl
@[simp] theorem toFz_bor : toFz (s :: ρ) (.bor i) = slFz i (s :: ρ)[i]? (s :: ρ) := rfl
@[simp] theorem ob2_some' {α : Type} {x y : D} {f : D → D → Option α} : ob2 (some x) (some y) f = f x y := rfl
end
section
variable {i j k : Int} {x y : Str} {l m : List D} {d e : D} {b c : Bool}
@[simp] theorem bin_add : binD .Add (.int i) (.int j) = some (.fz (.int (i + j))) := rfl
@[simp] theorem bin_sub : binD .Sub (.int i) (.int j) = some (.fz (.int (i - j))) := rfl
@[simp] theorem bin_mul : binD .Mult (.int i) (.int j) = if mulOk i j then some (.fz (.int (i * j))) else none := rfl
@[simp] theorem bin_div : binD .FloorDiv (.int i) (.int j) = if divOk j then some (.fz (.int (i / j))) else none := rfl
@[simp] theorem bin_mod : binD .Mod (.int i) (.int j) = if 0 < j then some (.fz (.int (i % j))) else none := rfl
@[simp] theorem bin_pow : binD .Pow (.int i) (.int j) = if powOk i j then some (.fz (.int (i ^ j.toNat))) else none := rfl
@[simp] theorem bin_adds : binD .Add (.str x) (.str y) = if x.length + y.length ≤ maxLen then some (.fz (.str (x ++ y))) else none := rfl
@[simp] theorem bin_addl : binD .Add (.lst l) (.lst m) = if l.length + m.length ≤ maxLen then some (.ow (.lst (l ++ m))) else none := rfl
@[simp] theorem bin_addt : binD .Add (.tup l) (.tup m) = if l.length + m.length ≤ maxLen then some (.fz (.tup (l ++ m))) else none := rfl
@[simp] theorem bin_rep : binD .Mult (.lst l) (.int k) = if 0 ≤ k ∧ k ≤ maxLen ∧ l.length * k.toNat ≤ maxLen then some (.ow (.lst (List.flatten (List.replicate k.toNat l)))) else none := rfl
@[simp] theorem cmp_eq : cmpD .Eq d e = eqD d e := rfl
@[simp] theorem cmp_ne : cmpD .NotEq d e = (eqD d e).map (!·) := rfl
@[simp] theorem cmp_lt : cmpD .Lt (.int i) (.int j) = some (decide (i < j)) := rfl
@[simp] theorem cmp_le : cmpD .LtE (.int i) (.int j) = some (decide (i ≤ j)) := rfl
@[simp] theorem cmp_gt : cmpD .Gt (.int i) (.int j) = some (decide (j < i)) := rfl
@[simp] theorem cmp_ge : cmpD .GtE (.int i) (.int j) = some (decide (j ≤ i)) := rfl
@[simp] theorem cmp_in : cmpD .In d e = inD d e := rfl
@[simp] theorem cmp_notin : cmpD .NotIn d e = (inD d e).map (!·) := rfl
@[simp] theorem cmp_is : cmpD .Is (.bl b) (.bl c) = some (decide (b = c)) := rfl
@[simp] theorem bi_abs : biD .abs (.int i) = some (.fz (.int (if i < 0 then -i else i))) := rfl
@[simp] theorem bi_int : biD .int (.int i) = some (.fz (.int i)) := rfl
@[simp] theorem bi_intb : biD .int (.bl b) = some (.fz (.int (if b then 1 else 0))) := rfl
@[simp] theorem bi_lenl : biD .len (.lst l) = some (.fz (.int l.length)) := rfl
@[simp] theorem bi_lent : biD .len (.tup l) = some (.fz (.int l.length)) := rfl
@[simp] theorem bi_lens : biD .len (.str x) = if x.length ≤ maxLen then some (.fz (.int x.length)) else none := rfl
@[simp] theorem bi_lenr {l : List Int} : biD .len (.scr l) = some (.fz (.int l.length)) := rfl
@[simp] theorem bi_all : biD .all (.lst l) = (allB l).map fun b => .fz (.bl b) := rfl
@[simp] theorem bi_listl : biD .list (.lst l) = some (.ow (.lst l)) := rfl
@[simp] theorem bi_listt : biD .list (.tup l) = some (.ow (.lst l)) := rfl
@[simp] theorem bi_lists : biD .list (.str x) = if x.length ≤ maxLen then some (.ow (.lst (x.cps.toList.map fun c => .str ⟨#[c]⟩))) else none := rfl
@[simp] theorem bi_tuplel : biD .tuple (.lst l) = some (.fz (.tup l)) := rfl
@[simp] theorem bi_tuplet : biD .tuple (.tup l) = some (.fz (.tup l)) := rfl
@[simp] theorem sub_d {ks : List Key} {vs : List D} : subD (.dct ks vs) d = (keyD d).bind (getK ks vs) := rfl
@[simp] theorem sub_dT {ks : List (List Key)} {vs : List D} : subD (.dcT ks vs) d = (keyT d).bind (getK ks vs) := rfl
@[simp] theorem keyD_int : keyD (.int i) = some (.inl i) := rfl
@[simp] theorem keyD_str : keyD (.str x) = some (.inr x) := rfl
@[simp] theorem sub_l : subD (.lst l) (.int i) = (ixD l.length i).bind fun k => l[k]? := rfl
@[simp] theorem sub_t : subD (.tup l) (.int i) = (ixD l.length i).bind fun k => l[k]? := rfl
@[simp] theorem sub_r {l : List Int} : subD (.scr l) (.int i) = (ixD l.length i).bind fun k => (l[k]?).map .int := rfl
theorem ixD_nn {n : Nat} (h : 0 ≤ i) (h2 : i < n) : ixD n i = some i.toNat := by unfold ixD; rw [if_pos h, if_pos h2]
@[simp] theorem ixD_0 {n : Nat} : ixD (n + 1) 0 = some 0 := ixD_nn (by omega) (by omega)
@[simp] theorem ixD_1 {n : Nat} : ixD (n + 1 + 1) 1 = some 1 := ixD_nn (by omega) (by omega)
@[simp] theorem ixD_2 {n : Nat} : ixD (n + 1 + 1 + 1) 2 = some 2 := ixD_nn (by omega) (by omega)
@[simp] theorem bnd_none {n k : Nat} : bndD n k none = some k := rfl
@[simp] theorem bnd_some {n k : Nat} : bndD n k (some (.int i)) = some (if i < 0 then (i + (n : Int)).toNat else min i.toNat n) := rfl
@[simp] theorem slc_l {lo hi : Option D} : slcD (.lst l) lo hi = (bndD l.length 0 lo).bind fun a => (bndD l.length l.length hi).bind fun b => some (.ow (.lst (cutD l a b))) := rfl
@[simp] theorem slc_t {lo hi : Option D} : slcD (.tup l) lo hi = (bndD l.length 0 lo).bind fun a => (bndD l.length l.length hi).bind fun b => some (.fz (.tup (cutD l a b))) := rfl
@[simp] theorem join_l : joinD x (.lst l) = (strsD l).bind fun ys => if (ys.map Str.length).sum + ys.length * x.length ≤ maxLen then some (.str (Txt.join x ys)) else none := rfl
@[simp] theorem isNon_non : D.isNon .non = true := rfl
@[simp] theorem isNon_int : D.isNon (.int i) = false := rfl
@[simp] theorem isNon_str : D.isNon (.str x) = false := rfl
@[simp] theorem isNon_bl : D.isNon (.bl b) = false := rfl
@[simp] theorem isNon_lst : D.isNon (.lst l) = false := rfl
@[simp] theorem isNon_tup : D.isNon (.tup l) = false := rfl
@[simp] theorem seq_l : seqD (.lst l) = some l := rfl
@[simp] theorem seq_t : seqD (.tup l) = some l := rfl
@[simp] theorem seq_s : seqD (.str x) = some (x.cps.toList.map fun c => .str ⟨#[c]⟩) := rfl
@[simp] theorem allB_nil : allB [] = some true := rfl
@[simp] theorem allB_cons : allB (.bl b :: l) = (allB l).map (b && ·) := rfl
@[simp] theorem allB_bools : ∀ bs : List Bool, allB (bs.map D.bl) = some (bs.all id)
  | [] => rfl
  | b :: bs => by
    show (allB (bs.map D.bl)).map (b && ·) = _
    rw [allB_bools bs]
    rfl
@[simp] theorem strs_nil : strsD [] = some [] := rfl
@[simp] theorem strs_cons : strsD (.str x :: l) = (strsD l).map (x :: ·) := rfl
@[simp] theorem strs_map : ∀ ss : List Str, strsD (ss.map D.str) = some ss
  | [] => rfl
  | s :: ss => by
    show (strsD (ss.map D.str)).map (s :: ·) = _
    rw [strs_map ss]
    rfl
end
/-- a name is stored -/
@[simp] theorem setSl_cons {np i : Nat} {s x : Sl} {ρ : Rho} : setSl np i s (x :: ρ) = if np ≤ i ∧ i < (x :: ρ).length then some ((x :: ρ).set i s) else none := rfl
section
variable {np : Nat} {cf : Nat → List Sl → CRes} {s : Sl} {ρ : Rho} {a b c e es : C} {d : D} {i : Nat}
def optI (x : RV) (ρ : Rho) : R (Option D) :=
  match x with
  | .fz (.int i) => .ok (some (.int i)) ρ
  | _ => .fail
@[simp] theorem optI_int {i : Int} : optI (.fz (.int i)) ρ = .ok (some (.int i)) ρ := rfl
@[simp] theorem optR_nil {r : R RV} : optR .nil r ρ = .ok none ρ := rfl
@[simp] theorem optR_con {r : R RV} : optR (.con d) r ρ = r.bind optI := rfl
@[simp] theorem optR_slot {r : R RV} : optR (.slot i) r ρ = r.bind optI := rfl
@[simp] theorem optR_bin {r : R RV} {o : Operator} : optR (.bin o a b) r ρ = r.bind optI := rfl
@[simp] theorem optR_neg {r : R RV} : optR (.neg a) r ρ = r.bind optI := rfl
@[simp] theorem optR_call {r : R RV} : optR (.call i a) r ρ = r.bind optI := rfl
@[simp] theorem evE_con : evE np cf (.con d) (s :: ρ) = .ok (.fz d) (s :: ρ) := rfl
@[simp] theorem evE_slot : evE np cf (.slot i) (s :: ρ) = slotR i (s :: ρ)[i]? (s :: ρ) := by
  unfold evE slotR
  rfl
@[simp] theorem evE_bin {o : Operator} : evE np cf (.bin o a b) (s :: ρ) = (evE np cf a (s :: ρ)).bind fun x ρ => (evE np cf b ρ).bind fun y ρ => ofO (ob2 (der ρ x) (der ρ y) (binD o)) ρ := rfl
def negR (d : Option D) (ρ : Rho) : R RV :=
  match d with
  | some (.int i) => .ok (.fz (.int (-i))) ρ
  | _ => .fail
@[simp] theorem negR_int {i : Int} : negR (some (.int i)) ρ = .ok (.fz (.int (-i))) ρ := rfl
@[simp] theorem evE_neg : evE np cf (.neg a) (s :: ρ) = (evE np cf a (s :: ρ)).bind fun x ρ => negR (der ρ x) ρ := rfl
def notR (x : RV) (ρ : Rho) : R RV :=
  match x with
  | .fz (.bl b) => .ok (.fz (.bl (!b))) ρ
  | _ => .fail
@[simp] theorem notR_bl {k : Bool} : notR (.fz (.bl k)) ρ = .ok (.fz (.bl (!k))) ρ := rfl
@[simp] theorem evE_not : evE np cf (.notV a) (s :: ρ) = (evE np cf a (s :: ρ)).bind notR := rfl
def andR (f : Rho → R RV) (x : RV) (ρ : Rho) : R RV :=
  match x with
  | .fz (.bl true) => f ρ
  | .fz (.bl false) => .ok (.fz (.bl false)) ρ
  | _ => .fail
def orR (f : Rho → R RV) (x : RV) (ρ : Rho) : R RV :=
  match x with
  | .fz (.bl false) => f ρ
  | .fz (.bl true) => .ok (.fz (.bl true)) ρ
  | _ => .fail
@[simp] theorem andR_bl {f : Rho → R RV} {k : Bool} : andR f (.fz (.bl k)) ρ = if k then f ρ else .ok (.fz (.bl false)) ρ := by cases k <;> rfl
@[simp] theorem orR_bl {f : Rho → R RV} {k : Bool} : orR f (.fz (.bl k)) ρ = if k then .ok (.fz (.bl true)) ρ else f ρ := by cases k <;> rfl
@[simp] theorem evE_and : evE np cf (.andV a b) (s :: ρ) = (evE np cf a (s :: ρ)).bind (andR (evE np cf b)) := rfl
@[simp] theorem evE_or : evE np cf (.orV a b) (s :: ρ) = (evE np cf a (s :: ρ)).bind (orR (evE np cf b)) := rfl
def blR (b : Bool) (ρ : Rho) : R RV := .ok (.fz (.bl b)) ρ
@[simp] theorem blR_eq {k : Bool} : blR k ρ = .ok (.fz (.bl k)) ρ := rfl
@[simp] theorem evE_cmp {o : CmpOp} : evE np cf (.cmp o a b) (s :: ρ) = (evE np cf a (s :: ρ)).bind fun x ρ => (evE np cf b ρ).bind fun y ρ => (ofO (ob2 (der ρ x) (der ρ y) (cmpD o)) ρ).bind blR := rfl
@[simp] theorem evE_isN : evE np cf (.isN a) (s :: ρ) = (evE np cf a (s :: ρ)).bind fun x ρ => (ofO (der ρ x) ρ).bind fun d ρ => .ok (.fz (.bl d.isNon)) ρ := rfl
@[simp] theorem evE_isNotN : evE np cf (.isNotN a) (s :: ρ) = (evE np cf a (s :: ρ)).bind fun x ρ => (ofO (der ρ x) ρ).bind fun d ρ => .ok (.fz (.bl (!d.isNon))) ρ := rfl
def chainR (cf' : Rho → R RV) (y : RV) (o' : CmpOp) (k : Bool) (ρ : Rho) : R RV :=
  if k then (cf' ρ).bind fun z ρ => (ofO (ob2 (der ρ y) (der ρ z) (cmpD o')) ρ).bind blR else .ok (.fz (.bl false)) ρ
@[simp] theorem chainR_eq {f : Rho → R RV} {y : RV} {o' : CmpOp} {k : Bool} : chainR f y o' k (s :: ρ) = if k then (f (s :: ρ)).bind fun z ρ => (ofO (ob2 (der ρ y) (der ρ z) (cmpD o')) ρ).bind blR else .ok (.fz (.bl false)) (s :: ρ) := rfl
@[simp] theorem evE_chain {o o' : CmpOp} : evE np cf (.chain o o' a b c) (s :: ρ) = (evE np cf a (s :: ρ)).bind fun x ρ => (evE np cf b ρ).bind fun y ρ => (ofO (ob2 (der ρ x) (der ρ y) (cmpD o)) ρ).bind (chainR (evE np cf c) y o') := rfl
@[simp] theorem evE_ite : evE np cf (.ite c a b) (s :: ρ) = (evT np cf c (s :: ρ)).bind fun k ρ => if k then evE np cf a ρ else evE np cf b ρ := rfl
def tupR (l : List D) (ρ : Rho) : R RV := if l.length ≤ maxLen then .ok (.fz (.tup l)) ρ else .fail
def lstR (l : List D) (ρ : Rho) : R RV := if l.length ≤ maxLen then .ok (.ow (.lst l)) ρ else .fail
@[simp] theorem evE_tup : evE np cf (.tup es) (s :: ρ) = (evEs np cf es (s :: ρ)).bind tupR := rfl
@[simp] theorem evE_lst : evE np cf (.lst es) (s :: ρ) = (evEs np cf es (s :: ρ)).bind lstR := rfl
theorem tupR_le {l : List D} (h : l.length ≤ maxLen) : tupR l ρ = .ok (.fz (.tup l)) ρ := by unfold tupR; rw [if_pos h]
theorem lstR_le {l : List D} (h : l.length ≤ maxLen) : lstR l ρ = .ok (.ow (.lst l)) ρ := by unfold lstR; rw [if_pos h]
def callA (cf : List Sl → CRes) (as : List Ar) (ρ : Rho) : R RV := if arNd ρ as then (match arSl ρ as with
    | none => .fail
    | some ps => callR (cf ps) as ρ) else .fail
@[simp] theorem evE_call {f : Nat} : evE np cf (.call f es) (s :: ρ) = (evAs np cf es (s :: ρ)).bind (callA (cf f)) := rfl
def call1R (f : List Sl → CRes) (x : RV) (ρ : Rho) : R RV :=
  match x with
    | .ow d => (match f [.ow d] with
      | .ok (.fz d) _ => .ok (.fz d) ρ
      | .ok (.ow d) _ => .ok (.ow d) ρ
      | _ => .fail)
    | .fz d => (match f [.fz d] with
      | .ok (.fz d) _ => .ok (.fz d) ρ
      | .ok (.ow d) _ => .ok (.ow d) ρ
      | _ => .fail)
    | .bor _ => .fail
def resR (r : CRes) (ρ : Rho) : R RV :=
  match r with
      | .ok (.fz d) _ => .ok (.fz d) ρ
      | .ok (.ow d) _ => .ok (.ow d) ρ
      | _ => .fail
@[simp] theorem resR_fz {ps : List Sl} : resR (.ok (.fz d) ps) ρ = .ok (.fz d) ρ := rfl
@[simp] theorem resR_ow {ps : List Sl} : resR (.ok (.ow d) ps) ρ = .ok (.ow d) ρ := rfl
@[simp] theorem call1R_fz {f : List Sl → CRes} : call1R f (.fz d) ρ = resR (f [.fz d]) ρ := rfl
@[simp] theorem call1R_ow {f : List Sl → CRes} : call1R f (.ow d) ρ = resR (f [.ow d]) ρ := rfl
@[simp] theorem evE_call1 {f : Nat} : evE np cf (.call1 f e) (s :: ρ) = (evE np cf e (s :: ρ)).bind (call1R (cf f)) := rfl
def callSR (f : List Sl → CRes) (l : List D) (ρ : Rho) : R RV := if l.length ≤ maxLen then resR (f [.fz (.tup l)]) ρ else .fail
@[simp] theorem evE_callS {f : Nat} : evE np cf (.callS f es) (s :: ρ) = (evEs np cf es (s :: ρ)).bind (callSR (cf f)) := rfl
theorem callSR_le {f : List Sl → CRes} {l : List D} (h : l.length ≤ maxLen) : callSR f l ρ = resR (f [.fz (.tup l)]) ρ := by unfold callSR; rw [if_pos h]
@[simp] theorem evE_dict0 : evE np cf .dict0 (s :: ρ) = .ok (.ow (.dct [] [])) (s :: ρ) := rfl
@[simp] theorem evE_lrng : evE np cf (.lrng a) (s :: ρ) = (evI np cf a (s :: ρ)).bind lstR := rfl
@[simp] theorem evE_bi {bi : Bi} : evE np cf (.bi bi e) (s :: ρ) = (evE np cf e (s :: ρ)).bind fun x ρ => ofO ((der ρ x).bind (biD bi)) ρ := rfl
def bi2R (mx : Bool) (x y : RV) (ρ : Rho) : R RV :=
  match x, y with
    | .fz (.int i), .fz (.int j) => .ok (.fz (.int (if mx then (if j > i then j else i) else (if j < i then j else i)))) ρ
    | _, _ => .fail
@[simp] theorem bi2R_int {mx : Bool} {i j : Int} : bi2R mx (.fz (.int i)) (.fz (.int j)) ρ = .ok (.fz (.int (if mx then (if j > i then j else i) else (if j < i then j else i)))) ρ := rfl
@[simp] theorem evE_bi2 {mx : Bool} : evE np cf (.bi2 mx a b) (s :: ρ) = (evE np cf a (s :: ρ)).bind fun x ρ => (evE np cf b ρ).bind fun y ρ => bi2R mx x y ρ := rfl
@[simp] theorem evE_isi {t : Ty} : evE np cf (.isi t e) (s :: ρ) = (evE np cf e (s :: ρ)).bind fun x ρ => (ofO ((der ρ x).bind (isiD t)) ρ).bind blR := rfl
def fzR (d : D) (ρ : Rho) : R RV := .ok (.fz d) ρ
@[simp] theorem fzR_eq : fzR d ρ = .ok (.fz d) ρ := rfl
@[simp] theorem evE_sub : evE np cf (.sub a b) (s :: ρ) = (evE np cf a (s :: ρ)).bind fun x ρ => (evE np cf b ρ).bind fun y ρ => (ofO (ob2 (der ρ x) (der ρ y) subD) ρ).bind fzR := rfl
@[simp] theorem evE_slc {lo hi : C} : evE np cf (.slc a lo hi) (s :: ρ) = (evE np cf a (s :: ρ)).bind fun x ρ => (optR lo (evE np cf lo ρ) ρ).bind fun l ρ => (optR hi (evE np cf hi ρ) ρ).bind fun h ρ => ofO ((der ρ x).bind fun d => slcD d l h) ρ := rfl
def joinR (f : Rho → R RV) (x : RV) (ρ : Rho) : R RV :=
  match x with
    | .fz (.str s) => (f ρ).bind fun y ρ => (ofO ((der ρ y).bind (joinD s)) ρ).bind fzR
    | _ => .fail
@[simp] theorem joinR_str {f : Rho → R RV} {x : Str} : joinR f (.fz (.str x)) (s :: ρ) = (f (s :: ρ)).bind fun y ρ => (ofO ((der ρ y).bind (joinD x)) ρ).bind fzR := rfl
@[simp] theorem evE_join : evE np cf (.join a b) (s :: ρ) = (evE np cf a (s :: ρ)).bind (joinR (evE np cf b)) := rfl
@[simp] theorem evE_fld {c k : Nat} : evE np cf (.fld c k a) (s :: ρ) = (evE np cf a (s :: ρ)).bind fun x ρ => (ofO ((der ρ x).bind (fldD c k)) ρ).bind fzR := rfl
@[simp] theorem evE_isiC {c : Nat} : evE np cf (.isiC c a) (s :: ρ) = (evE np cf a (s :: ρ)).bind fun x ρ => (ofO ((der ρ x).bind (isiCD c)) ρ).bind blR := rfl
@[simp] theorem fldD_obj {c k : Nat} {l : List D} : fldD c k (.obj c l) = l[k]? := if_pos rfl
@[simp] theorem isiCD_o0 {c : Nat} {l : List D} : isiCD c (.obj 0 l) = some (decide (0 = c)) := rfl
@[simp] theorem isiCD_o1 {c : Nat} {l : List D} : isiCD c (.obj 1 l) = some (decide (1 = c)) := rfl
@[simp] theorem isOb_obj {c c' : Nat} {l : List D} : isOb c (.obj c' l) = decide (c' = c) := rfl
@[simp] theorem mkO_ow {ps : List Sl} : mkO (.ok (.fz .non) (.ow d :: ps)) ρ = .ok (.ow d) ρ := rfl
@[simp] theorem mkO_fz {ps : List Sl} : mkO (.ok (.fz .non) (.fz d :: ps)) ρ = .ok (.fz d) ρ := rfl
@[simp] theorem resO_fz {ps : List Sl} : resO (.ok (.fz d) ps) ρ = .ok (.fz d) ρ := rfl
@[simp] theorem resO_ow {ps : List Sl} : resO (.ok (.ow d) ps) ρ = .ok (.ow d) ρ := rfl
@[simp] theorem evE_make {c f : Nat} {dv : List Sl} : evE np cf (.make c f es dv) (s :: ρ) = (evEs np cf es (s :: ρ)).bind fun l ρ => mkO (cf f (.ow (.obj c []) :: (l.map .fz ++ dv))) ρ := rfl
@[simp] theorem evE_meth {c f : Nat} {dv : List Sl} : evE np cf (.meth c f e es dv) (s :: ρ) = (evE np cf e (s :: ρ)).bind fun r ρ => (toFz ρ r).bind fun d ρ => if isOb c d then (evEs np cf es ρ).bind fun l ρ => resO (cf f (.fz d :: (l.map .fz ++ dv))) ρ else .fail := rfl
@[simp] theorem evE_callD {f : Nat} {dv : List Sl} : evE np cf (.callD f es dv) (s :: ρ) = (evEs np cf es (s :: ρ)).bind fun l ρ => resO (cf f (l.map .fz ++ dv)) ρ := rfl
@[simp] theorem ngR_bl {ng k : Bool} : ngR ng (.fz (.bl k)) ρ = .ok (.fz (.bl (if ng then !k else k))) ρ := rfl
@[simp] theorem evE_mkX {c : Nat} : evE np cf (.mkX c es) (s :: ρ) = (evEs np cf es (s :: ρ)).bind fun l ρ => (ofO (mkXD c l) ρ).bind fun d ρ => .ok (.fz d) ρ := rfl
@[simp] theorem evE_isiX {nm : Str} : evE np cf (.isiX nm e) (s :: ρ) = (evE np cf e (s :: ρ)).bind fun x ρ => (ofO ((der ρ x).bind (isiXD nm)) ρ).bind fun b ρ => .ok (.fz (.bl b)) ρ := rfl
@[simp] theorem evE_dsp {ks : List Str} : evE np cf (.dsp ks es) (s :: ρ) = (evEs np cf es (s :: ρ)).bind fun l ρ => if ks.length = l.length ∧ ks.Nodup ∧ l.length ≤ 15 then .ok (.ow (.dct (ks.map .inr) l)) ρ else .fail := rfl
@[simp] theorem evE_repr : evE np cf (.repr e) (s :: ρ) = (evE np cf e (s :: ρ)).bind fun x ρ => (ofO ((der ρ x).bind reprD) ρ).bind fun d ρ => .ok (.fz d) ρ := rfl
@[simp] theorem evE_callG : evE np cf (.callG f es) (s :: ρ) = evE np cf (.call f es) (s :: ρ) := rfl
@[simp] theorem evE_inO {ng : Bool} {c f : Nat} : evE np cf (.inO ng c f a b) (s :: ρ) = (evE np cf a (s :: ρ)).bind fun r ρ => (toFz ρ r).bind fun d ρ => (evE np cf b ρ).bind fun r ρ => (toFz ρ r).bind fun o ρ => if isOb c o then (resO (cf f [.fz o, .fz d]) ρ).bind (ngR ng) else .fail := rfl
@[simp] theorem isOwL_ow {l : List D} : isOwL (some (.ow (.lst l))) = true := rfl
@[simp] theorem appR_ow {o : Nat} {l : List D} : appR o d (some (.ow (.lst l))) ρ = if l.length < maxLen then .ok (.fz .non) (ρ.set o (.ow (.lst (l ++ [d])))) else .fail := rfl
def popR2 (o : Nat) (l : List D) (x : Option D) (ρ : Rho) : R RV :=
  match x with
    | some d => .ok (.fz d) (ρ.set o (.ow (.lst l)))
    | none => .fail
@[simp] theorem popR2_some {o : Nat} {l : List D} : popR2 o l (some d) ρ = .ok (.fz d) (ρ.set o (.ow (.lst l))) := rfl
@[simp] theorem popR_ow {o : Nat} {l : List D} : popR o (some (.ow (.lst l))) ρ = popR2 o l.dropLast l[l.length - 1]? ρ := rfl
def popAtR2 (o : Nat) (l : List D) (k : Option Nat) (ρ : Rho) : R RV :=
  match k with
    | some k => popR2 o (l.eraseIdx k) l[k]? ρ
    | none => .fail
@[simp] theorem popAtR2_some {o k : Nat} {l : List D} : popAtR2 o l (some k) ρ = popR2 o (l.eraseIdx k) l[k]? ρ := rfl
@[simp] theorem popAtR_ow {o : Nat} {i : Int} {l : List D} : popAtR o (.fz (.int i)) (some (.ow (.lst l))) ρ = if l.length ≤ maxLen then popAtR2 o l (ixD l.length i) ρ else .fail := by
  unfold popAtR popAtR2 popR2
  rfl
@[simp] theorem extR_ow {o : Nat} {l m : List D} : extR o (some (.lst m)) (some (.ow (.lst l))) ρ = if l.length + m.length ≤ maxLen then .ok (.fz .non) (ρ.set o (.ow (.lst (l ++ m)))) else .fail := rfl
@[simp] theorem evE_lApp {o : Nat} : evE np cf (.lApp o e) (s :: ρ) = if isOwL (s :: ρ)[o]? then (evE np cf e (s :: ρ)).bind fun r ρ => (toFz ρ r).bind fun d ρ => appR o d ρ[o]? ρ else .fail := rfl
@[simp] theorem evE_lPop {o : Nat} : evE np cf (.lPop o) (s :: ρ) = popR o (s :: ρ)[o]? (s :: ρ) := rfl
@[simp] theorem evE_lPopAt {o : Nat} : evE np cf (.lPopAt o e) (s :: ρ) = if isOwL (s :: ρ)[o]? then (evE np cf e (s :: ρ)).bind fun x ρ => popAtR o x ρ[o]? ρ else .fail := rfl
@[simp] theorem evE_lExt {o : Nat} : evE np cf (.lExt o e) (s :: ρ) = if isOwL (s :: ρ)[o]? then (evE np cf e (s :: ρ)).bind fun x ρ => extR o (der ρ x) ρ[o]? ρ else .fail := rfl
/-- a comprehension, behind its source -/
def lcS (np : Nat) (cf : Nat → List Sl → CRes) (elt tg ifs : C) (vs : List Nat) (ds : List D) (ρ1 : Rho) : R RV :=
  if vs.any (fun v => isOw ρ1[v]? || decide (v < np)) then .fail else
      (lcL (bindT np tg) (evT np cf ifs) (evE np cf elt) vs ds [] (wipeS ρ1 vs)).bind fun acc ρ2 => .ok (.ow (.lst acc)) (backS ρ1 ρ2 vs)
@[simp] theorem evE_lc {elt tg it ifs : C} {vs : List Nat} : evE np cf (.lc elt tg it ifs vs) (s :: ρ) = (evI np cf it (s :: ρ)).bind (lcS np cf elt tg ifs vs) := rfl
def consR (d : D) (l : List D) (ρ : Rho) : R (List D) := .ok (d :: l) ρ
@[simp] theorem consR_eq {l : List D} : consR d l ρ = .ok (d :: l) ρ := rfl
@[simp] theorem evEs_nil : evEs np cf .nil (s :: ρ) = .ok [] (s :: ρ) := rfl
@[simp] theorem evEs_cons : evEs np cf (.cons e es) (s :: ρ) = (evE np cf e (s :: ρ)).bind fun r ρ => (toFz ρ r).bind fun d ρ => (evEs np cf es ρ).bind (consR d) := rfl
def consA (a : Ar) (l : List Ar) (ρ : Rho) : R (List Ar) := .ok (a :: l) ρ
@[simp] theorem consA_eq {a : Ar} {l : List Ar} : consA a l ρ = .ok (a :: l) ρ := rfl
def slotA (s : Option Sl) (r : R (List Ar)) : R (List Ar) :=
  match s with
  | some (.fz _) => r
  | some (.ow _) => r
  | _ => .fail
@[simp] theorem slotA_fz {r : R (List Ar)} : slotA (some (.fz d)) r = r := rfl
@[simp] theorem slotA_ow {r : R (List Ar)} : slotA (some (.ow d)) r = r := rfl
@[simp] theorem evAs_nil : evAs np cf .nil (s :: ρ) = .ok [] (s :: ρ) := rfl
@[simp] theorem evAs_slot : evAs np cf (.cons (.slot i) es) (s :: ρ) = slotA (s :: ρ)[i]? ((evAs np cf es (s :: ρ)).bind (consA (.slot i))) := by
  show (match (s :: ρ)[i]? with | some (.fz _) | some (.ow _) => (evAs np cf es (s :: ρ)).bind fun l ρ => R.ok (Ar.slot i :: l) ρ | _ => .fail) = _
  unfold slotA consA
  cases (s :: ρ)[i]? with
  | none => rfl
  | some x => cases x <;> rfl
theorem evAs_val (h : ∀ i, e ≠ .slot i) : evAs np cf (.cons e es) (s :: ρ) = (evE np cf e (s :: ρ)).bind fun r ρ => (toFz ρ r).bind fun d ρ => (evAs np cf es ρ).bind (consA (.val d)) := by
  cases e <;> first | exact absurd rfl (h _) | rfl
@[simp] theorem evAs_con : evAs np cf (.cons (.con d) es) (s :: ρ) = (evAs np cf es (s :: ρ)).bind (consA (.val d)) := rfl
@[simp] theorem evAs_bin {o : Operator} : evAs np cf (.cons (.bin o a b) es) (s :: ρ) = (evE np cf (.bin o a b) (s :: ρ)).bind fun r ρ => (toFz ρ r).bind fun d ρ => (evAs np cf es ρ).bind (consA (.val d)) := rfl
@[simp] theorem evAs_bi {o : Bi} : evAs np cf (.cons (.bi o a) es) (s :: ρ) = (evE np cf (.bi o a) (s :: ρ)).bind fun r ρ => (toFz ρ r).bind fun d ρ => (evAs np cf es ρ).bind (consA (.val d)) := rfl
@[simp] theorem evAs_bi2 {o : Bool} : evAs np cf (.cons (.bi2 o a b) es) (s :: ρ) = (evE np cf (.bi2 o a b) (s :: ρ)).bind fun r ρ => (toFz ρ r).bind fun d ρ => (evAs np cf es ρ).bind (consA (.val d)) := rfl
@[simp] theorem evAs_sub : evAs np cf (.cons (.sub a b) es) (s :: ρ) = (evE np cf (.sub a b) (s :: ρ)).bind fun r ρ => (toFz ρ r).bind fun d ρ => (evAs np cf es ρ).bind (consA (.val d)) := rfl
@[simp] theorem evAs_slc : evAs np cf (.cons (.slc a b c) es) (s :: ρ) = (evE np cf (.slc a b c) (s :: ρ)).bind fun r ρ => (toFz ρ r).bind fun d ρ => (evAs np cf es ρ).bind (consA (.val d)) := rfl
@[simp] theorem evAs_tup : evAs np cf (.cons (.tup a) es) (s :: ρ) = (evE np cf (.tup a) (s :: ρ)).bind fun r ρ => (toFz ρ r).bind fun d ρ => (evAs np cf es ρ).bind (consA (.val d)) := rfl
@[simp] theorem evAs_lst : evAs np cf (.cons (.lst a) es) (s :: ρ) = (evE np cf (.lst a) (s :: ρ)).bind fun r ρ => (toFz ρ r).bind fun d ρ => (evAs np cf es ρ).bind (consA (.val d)) := rfl
@[simp] theorem evAs_call {f : Nat} : evAs np cf (.cons (.call f a) es) (s :: ρ) = (evE np cf (.call f a) (s :: ρ)).bind fun r ρ => (toFz ρ r).bind fun d ρ => (evAs np cf es ρ).bind (consA (.val d)) := rfl
@[simp] theorem evAs_call1 {f : Nat} : evAs np cf (.cons (.call1 f a) es) (s :: ρ) = (evE np cf (.call1 f a) (s :: ρ)).bind fun r ρ => (toFz ρ r).bind fun d ρ => (evAs np cf es ρ).bind (consA (.val d)) := rfl
@[simp] theorem evAs_lc {el tg it f : C} {vs : List Nat} : evAs np cf (.cons (.lc el tg it f vs) es) (s :: ρ) = (evE np cf (.lc el tg it f vs) (s :: ρ)).bind fun r ρ => (toFz ρ r).bind fun d ρ => (evAs np cf es ρ).bind (consA (.val d)) := rfl
@[simp] theorem evT_nil : evT np cf .nil (s :: ρ) = .ok true (s :: ρ) := rfl
@[simp] theorem evT_not : evT np cf (.tNot a) (s :: ρ) = (evT np cf a (s :: ρ)).bind fun b ρ => .ok (!b) ρ := rfl
def tAndR (f : Rho → R Bool) (k : Bool) (ρ : Rho) : R Bool := if k then f ρ else .ok false ρ
def tOrR (f : Rho → R Bool) (k : Bool) (ρ : Rho) : R Bool := if k then .ok true ρ else f ρ
@[simp] theorem tAndR_eq {f : Rho → R Bool} {k : Bool} : tAndR f k ρ = if k then f ρ else .ok false ρ := rfl
@[simp] theorem tOrR_eq {f : Rho → R Bool} {k : Bool} : tOrR f k ρ = if k then .ok true ρ else f ρ := rfl
@[simp] theorem evT_and : evT np cf (.tAnd a b) (s :: ρ) = (evT np cf a (s :: ρ)).bind (tAndR (evT np cf b)) := rfl
@[simp] theorem evT_or : evT np cf (.tOr a b) (s :: ρ) = (evT np cf a (s :: ρ)).bind (tOrR (evT np cf b)) := rfl
def tvR (x : RV) (ρ : Rho) : R Bool :=
  match x with
    | .fz (.bl b) => .ok b ρ
    | _ => .fail
@[simp] theorem tvR_bl {k : Bool} : tvR (.fz (.bl k)) ρ = .ok k ρ := rfl
@[simp] theorem evT_val : evT np cf (.tVal e) (s :: ρ) = (evE np cf e (s :: ρ)).bind tvR := rfl
@[simp] theorem evI_val : evI np cf (.iVal e) (s :: ρ) = (evE np cf e (s :: ρ)).bind fun r ρ => (toFz ρ r).bind fun d ρ => ofO (seqD d) ρ := rfl
def rng1R (x : RV) (ρ : Rho) : R (List D) :=
  match x with
    | .fz (.int j) => if -(2 ^ 62) ≤ j ∧ j < 2 ^ 62 then .ok (rngD 0 j.toNat) ρ else .fail
    | _ => .fail
def rng2R (x y : RV) (ρ : Rho) : R (List D) :=
  match x, y with
    | .fz (.int i), .fz (.int j) => if -(2 ^ 62) ≤ i ∧ i < 2 ^ 62 ∧ -(2 ^ 62) ≤ j ∧ j < 2 ^ 62 then .ok (rngD i (j - i).toNat) ρ else .fail
    | _, _ => .fail
@[simp] theorem rng1R_int {j : Int} : rng1R (.fz (.int j)) ρ = if -(2 ^ 62) ≤ j ∧ j < 2 ^ 62 then .ok (rngD 0 j.toNat) ρ else .fail := rfl
@[simp] theorem rng2R_int {i j : Int} : rng2R (.fz (.int i)) (.fz (.int j)) ρ = if -(2 ^ 62) ≤ i ∧ i < 2 ^ 62 ∧ -(2 ^ 62) ≤ j ∧ j < 2 ^ 62 then .ok (rngD i (j - i).toNat) ρ else .fail := rfl
@[simp] theorem evI_rng1 : evI np cf (.iRng1 e) (s :: ρ) = (evE np cf e (s :: ρ)).bind rng1R := rfl
@[simp] theorem evI_rng2 : evI np cf (.iRng2 a b) (s :: ρ) = (evE np cf a (s :: ρ)).bind fun x ρ => (evE np cf b ρ).bind fun y ρ => rng2R x y ρ := rfl
@[simp] theorem settle_fz : settle ρ (.fz d) = .ok (.fz d) ρ := rfl
@[simp] theorem settle_ow : settle ρ (.ow d) = .ok (.ow d) ρ := rfl
@[simp] theorem settle_bor : settle (s :: ρ) (.bor i) = (slFz i (s :: ρ)[i]? (s :: ρ)).bind fun d ρ => .ok (.fz d) ρ := rfl
def optN (o : Option Rho) : O :=
  match o with
  | some ρ => .next ρ
  | none => .fail
@[simp] theorem optN_some : optN (some ρ) = .next ρ := rfl
@[simp] theorem optN_none : optN none = .fail := rfl
@[simp] theorem optN_ite {c : Prop} [Decidable c] {x y : Option Rho} : optN (if c then x else y) = if c then optN x else optN y := by split <;> rfl
def asgS (np i : Nat) (s : Sl) (ρ : Rho) : O := optN (setSl np i s ρ)
@[simp] theorem asgS_cons {x : Sl} : asgS np i x (s :: ρ) = optN (setSl np i x (s :: ρ)) := rfl
theorem asgN_eq {r : RV} : asgN np i r ρ = (settle ρ r).bindO (asgS np i) := by
  unfold asgN R.bindO asgS optN
  cases settle ρ r <;> rfl
@[simp] theorem asgN_cons {r : RV} : asgN np i r (s :: ρ) = (settle (s :: ρ) r).bindO (asgS np i) := asgN_eq
@[simp] theorem evS_pass : evS np cf .sPass (s :: ρ) = .next (s :: ρ) := rfl
theorem bindO_def {α : Type} {r : R α} {f : α → Rho → O} : r.bindO f = match r with | .ok a ρ => f a ρ | .fail => .fail := rfl
@[simp] theorem evS_expr : evS np cf (.sExpr e) (s :: ρ) = (evE np cf e (s :: ρ)).bindO fun _ ρ => .next ρ := by
  unfold evS
  cases evE np cf e (s :: ρ) <;> rfl
@[simp] theorem evS_asg : evS np cf (.sAsg (.tName i) e) (s :: ρ) = (evE np cf e (s :: ρ)).bindO (asgN np i) := by
  unfold evS
  cases evE np cf e (s :: ρ) <;> rfl
@[simp] theorem evS_asgT {ts : C} : evS np cf (.sAsg (.tTup ts) e) (s :: ρ) = (evE np cf e (s :: ρ)).bindO fun r ρ => (toFz ρ r).bindO fun d ρ => optN (bindT np (.tTup ts) d ρ) := by
  unfold evS
  cases evE np cf e (s :: ρ) with
  | fail => rfl
  | ok r ρ1 =>
    simp only [bindO_ok]
    cases toFz ρ1 r with
    | fail => rfl
    | ok d ρ2 => rfl
def parS (np i j : Nat) (x y : RV) (ρ : Rho) : O := (settle ρ x).bindO fun sx ρ => (settle ρ y).bindO fun sy ρ => optN ((setSl np i sx ρ).bind (setSl np j sy))
@[simp] theorem parS_cons {j : Nat} {x y : RV} : parS np i j x y (s :: ρ) = (settle (s :: ρ) x).bindO fun sx ρ => (settle ρ y).bindO fun sy ρ => optN ((setSl np i sx ρ).bind (setSl np j sy)) := rfl
@[simp] theorem evS_par {j : Nat} : evS np cf (.sPar i j a b) (s :: ρ) = (evE np cf a (s :: ρ)).bindO fun x ρ => (evE np cf b ρ).bindO fun y ρ => parS np i j x y ρ := by
  unfold evS
  cases evE np cf a (s :: ρ) with
  | fail => rfl
  | ok x ρ1 =>
    simp only [bindO_ok]
    cases evE np cf b ρ1 with
    | fail => rfl
    | ok y ρ2 =>
      simp only [bindO_ok]
      unfold parS
      cases settle ρ2 x with
      | fail => rfl
      | ok sx ρ3 =>
        simp only [bindO_ok]
        cases settle ρ3 y with
        | fail => rfl
        | ok sy ρ4 => rfl
def subS2 (o : Nat) (d : D) (x : RV) (ρ : Rho) : O :=
  match x with
  | .fz dk => subPut o dk d ρ[o]? ρ
  | _ => .fail
def subS4 (o : Nat) (d : D) (l : List D) (k : Option Nat) (ρ : Rho) : O :=
  match k with
            | some k => .next (ρ.set o (.ow (.lst (l.set k d))))
            | none => .fail
def subS5 (o : Nat) (d : D) (ks : List Key) (vs : List D) (k : Option Key) (ρ : Rho) : O :=
  match k with
    | some k => if ks.length < maxLen then .next (ρ.set o (.ow (.dct (putKk k ks) (putKv k d ks vs)))) else .fail
    | none => .fail
def subS6 (o : Nat) (d : D) (ks : List (List Key)) (vs : List D) (k : Option (List Key)) (ρ : Rho) : O :=
  match k with
    | some k => if ks.length < maxLen then .next (ρ.set o (.ow (.dcT (putKk k ks) (putKv k d ks vs)))) else .fail
    | none => .fail
@[simp] theorem subS4_some {o k : Nat} {l : List D} : subS4 o d l (some k) ρ = .next (ρ.set o (.ow (.lst (l.set k d)))) := rfl
@[simp] theorem subS5_some {o : Nat} {k : Key} {ks : List Key} {vs : List D} : subS5 o d ks vs (some k) ρ = if ks.length < maxLen then .next (ρ.set o (.ow (.dct (putKk k ks) (putKv k d ks vs)))) else .fail := rfl
@[simp] theorem subS6_some {o : Nat} {k : List Key} {ks : List (List Key)} {vs : List D} : subS6 o d ks vs (some k) ρ = if ks.length < maxLen then .next (ρ.set o (.ow (.dcT (putKk k ks) (putKv k d ks vs)))) else .fail := rfl
@[simp] theorem subPut_l {o : Nat} {k : Int} {l : List D} : subPut o (.int k) d (some (.ow (.lst l))) ρ = subS4 o d l (ixD l.length k) ρ := rfl
@[simp] theorem subPut_d {o : Nat} {dk : D} {ks : List Key} {vs : List D} : subPut o dk d (some (.ow (.dct ks vs))) ρ = subS5 o d ks vs (keyD dk) ρ := rfl
@[simp] theorem subPut_t {o : Nat} {dk : D} {ks : List (List Key)} {vs : List D} : subPut o dk d (some (.ow (.dcT ks vs))) ρ = subS6 o d ks vs (keyT dk) ρ := rfl
@[simp] theorem subS2_fz {o : Nat} {dk : D} : subS2 o d (.fz dk) (s :: ρ) = subPut o dk d (s :: ρ)[o]? (s :: ρ) := rfl
@[simp] theorem isOw_ow : isOw (some (.ow d)) = true := rfl
@[simp] theorem isOw_fz : isOw (some (.fz d)) = false := rfl
@[simp] theorem isOw_un : isOw (some .un) = false := rfl
@[simp] theorem evS_sub {o : Nat} : evS np cf (.sSub o b e) (s :: ρ) = (evE np cf e (s :: ρ)).bindO fun r ρ => (toFz ρ r).bindO fun d ρ => if isOw ρ[o]? then (evE np cf b ρ).bindO (subS2 o d) else .fail := by
  unfold evS
  cases evE np cf e (s :: ρ) with
  | fail => rfl
  | ok r ρ1 =>
    simp only [bindO_ok]
    cases toFz ρ1 r with
    | fail => rfl
    | ok d ρ2 =>
      simp only [bindO_ok]
      split
      · cases evE np cf b ρ2 with
        | fail => rfl
        | ok x ρ3 =>
          cases x <;> rfl
      · rfl
def fldS (i c k : Nat) (d : D) (s : Option Sl) (ρ : Rho) : O :=
  match s with
        | some (.ow (.obj c' l)) => if c' = c ∧ l.length = k then .next (ρ.set i (.ow (.obj c (l ++ [d])))) else .fail
        | _ => .fail
@[simp] theorem fldS_ow {c c' k : Nat} {l : List D} : fldS i c k d (some (.ow (.obj c' l))) ρ = if c' = c ∧ l.length = k then .next (ρ.set i (.ow (.obj c (l ++ [d])))) else .fail := rfl
@[simp] theorem evS_fld {c k : Nat} : evS np cf (.sFld i c k e) (s :: ρ) = (evE np cf e (s :: ρ)).bindO fun r ρ => (toFz ρ r).bindO fun d ρ => fldS i c k d ρ[i]? ρ := by
  unfold evS
  cases evE np cf e (s :: ρ) with
  | fail => rfl
  | ok r ρ1 =>
    simp only [bindO_ok]
    cases toFz ρ1 r with
    | fail => rfl
    | ok d ρ2 => rfl
@[simp] theorem evS_if {c1 c2 : C} : evS np cf (.sIf c c1 c2) (s :: ρ) = (evT np cf c (s :: ρ)).bindO fun k ρ => if k then evSs np cf c1 ρ else evSs np cf c2 ρ := by
  unfold evS
  cases evT np cf c (s :: ρ) <;> rfl
def forS (np : Nat) (cf : Nat → List Sl → CRes) (tg body : C) (ds : List D) (ρ : Rho) : O := forL (bindT np tg) (evSs np cf body) ds ρ
@[simp] theorem evS_for {tg it : C} : evS np cf (.sFor tg it b) (s :: ρ) = (evI np cf it (s :: ρ)).bindO (forS np cf tg b) := by
  unfold evS
  cases evI np cf it (s :: ρ) <;> rfl
def whileS (np : Nat) (cf : Nat → List Sl → CRes) (c body : C) (n : Nat) (ρ : Rho) : O := whlL (evT np cf c) (evSs np cf body) n ρ
@[simp] theorem evS_while : evS np cf (.sWhile c b) (s :: ρ) = whileS np cf c b whlMax (s :: ρ) := rfl
@[simp] theorem retR_fz : retR np (.fz d) ρ = .ret (.fz d) ρ := rfl
@[simp] theorem retR_ow : retR np (.ow d) ρ = .ret (.ow d) ρ := rfl
def retS (np i : Nat) (s : Option Sl) (ρ : Rho) : O :=
  match s with
    | some (.fz d) => .ret (.fz d) ρ
    | some (.ow d) => if np ≤ i then .ret (.ow d) (ρ.set i .un) else .ret (.fz d) (ρ.set i (.fz d))
    | _ => .fail
@[simp] theorem retS_fz : retS np i (some (.fz d)) ρ = .ret (.fz d) ρ := rfl
@[simp] theorem retS_ow : retS np i (some (.ow d)) ρ = if np ≤ i then .ret (.ow d) (ρ.set i .un) else .ret (.fz d) (ρ.set i (.fz d)) := rfl
@[simp] theorem retR_bor : retR np (.bor i) (s :: ρ) = retS np i (s :: ρ)[i]? (s :: ρ) := by
  unfold retR retS
  rfl
@[simp] theorem evS_ret : evS np cf (.sRet e) (s :: ρ) = (evE np cf e (s :: ρ)).bindO (retR np) := by
  unfold evS
  cases evE np cf e (s :: ρ) <;> rfl
@[simp] theorem evS_retN : evS np cf .sRetN (s :: ρ) = .ret (.fz .non) (s :: ρ) := rfl
@[simp] theorem evS_never : evS np cf .sNever (s :: ρ) = .fail := rfl
@[simp] theorem evSs_nil : evSs np cf .nil (s :: ρ) = .next (s :: ρ) := rfl
@[simp] theorem evSs_cons : evSs np cf (.cons a b) (s :: ρ) = (evS np cf a (s :: ρ)).bindN (evSs np cf b) := by
  rw [evSs]
  cases evS np cf a (s :: ρ) <;> rfl
@[simp] theorem endO_next : endO np (.next ρ) = .ok (.fz .non) (ρ.take np) := rfl
@[simp] theorem endO_ret {r : RV} : endO np (.ret r ρ) = .ok r (ρ.take np) := rfl
@[simp] theorem endO_fail : endO np .fail = .fail := rfl
@[simp] theorem endO_ite {c : Prop} [Decidable c] {x y : O} : endO np (if c then x else y) = if c then endO np x else endO np y := by split <;> rfl
theorem runF_eq {f : Fn} {ps : List Sl} (h : ps.length = f.np) : runF cf f ps = endO f.np (evSs f.np cf f.body (ps ++ List.replicate (f.nn - f.np) .un)) := by
  unfold runF
  rw [if_pos h]
/-! ### calls -/
@[simp] theorem arNd_nil : arNd ρ [] = true := rfl
@[simp] theorem arNd_val {l : List Ar} : arNd ρ (.val d :: l) = arNd ρ l := rfl
@[simp] theorem arNd_slot {l : List Ar} : arNd ρ (.slot i :: l) = ((!isOw ρ[i]? || l.all fun | .slot j => j != i | .val _ => true) && arNd ρ l) := rfl
@[simp] theorem arSl_nil : arSl ρ [] = some [] := rfl
@[simp] theorem arSl_val {l : List Ar} : arSl ρ (.val d :: l) = (arSl ρ l).map (.fz d :: ·) := rfl
def arS (s : Option Sl) (r : Option (List Sl)) : Option (List Sl) :=
  match s with
    | some (.fz d) => r.map (.fz d :: ·)
    | some (.ow d) => r.map (.ow d :: ·)
    | _ => none
@[simp] theorem arS_fz {r : Option (List Sl)} : arS (some (.fz d)) r = r.map (.fz d :: ·) := rfl
@[simp] theorem arS_ow {r : Option (List Sl)} : arS (some (.ow d)) r = r.map (.ow d :: ·) := rfl
@[simp] theorem arSl_slot {l : List Ar} : arSl ρ (.slot i :: l) = arS ρ[i]? (arSl ρ l) := by
  rw [arSl]
  cases ρ[i]? with
  | none => rfl
  | some x => cases x <;> rfl
@[simp] theorem arBack_nil : arBack [] [] ρ = some ρ := rfl
@[simp] theorem arBack_val {l : List Ar} {p : Sl} {ps : List Sl} : arBack (.val d :: l) (p :: ps) ρ = arBack l ps ρ := rfl
def arB (i : Nat) (s : Option Sl) (p : Sl) (l : List Ar) (ps : List Sl) (ρ : Rho) : Option Rho :=
  match s with
    | some (.ow _) => (match p with
      | .un => none
      | p => arBack l ps (ρ.set i p))
    | _ => arBack l ps ρ
@[simp] theorem arB_fz {p : Sl} {l : List Ar} {ps : List Sl} : arB i (some (.fz d)) p l ps ρ = arBack l ps ρ := rfl
@[simp] theorem arB_owf {d' : D} {l : List Ar} {ps : List Sl} : arB i (some (.ow d)) (.fz d') l ps ρ = arBack l ps (ρ.set i (.fz d')) := rfl
@[simp] theorem arB_owo {d' : D} {l : List Ar} {ps : List Sl} : arB i (some (.ow d)) (.ow d') l ps ρ = arBack l ps (ρ.set i (.ow d')) := rfl
@[simp] theorem arBack_slot {l : List Ar} {p : Sl} {ps : List Sl} : arBack (.slot i :: l) (p :: ps) ρ = arB i ρ[i]? p l ps ρ := by
  cases p with
  | un =>
    rw [arBack]
    cases ρ[i]? with
    | none => rfl
    | some x => cases x <;> rfl
  | fz d =>
    rw [arBack]
    · cases ρ[i]? with
      | none => rfl
      | some x => cases x <;> rfl
    · intro z; cases z
  | ow d =>
    rw [arBack]
    · cases ρ[i]? with
      | none => rfl
      | some x => cases x <;> rfl
    · intro z; cases z
def callB (r : CRes) (as : List Ar) (ρ : Rho) : R RV := callR r as ρ
def bkR (r : RV) (o : Option Rho) : R RV :=
  match o with
    | none => .fail
    | some ρ' => match r with
      | .bor _ => .fail
      | r => .ok r ρ'
@[simp] theorem bkR_fz : bkR (.fz d) (some ρ) = .ok (.fz d) ρ := rfl
@[simp] theorem bkR_ow : bkR (.ow d) (some ρ) = .ok (.ow d) ρ := rfl
@[simp] theorem callR_ok {r : RV} {ps : List Sl} {as : List Ar} : callR (.ok r ps) as ρ = bkR r (arBack as ps ρ) := rfl
def callP (cf : List Sl → CRes) (as : List Ar) (ps : Option (List Sl)) (ρ : Rho) : R RV :=
  match ps with
    | none => .fail
    | some ps => callR (cf ps) as ρ
@[simp] theorem callP_some {f : List Sl → CRes} {as : List Ar} {ps : List Sl} : callP f as (some ps) ρ = callR (f ps) as ρ := rfl
@[simp] theorem callA_cons {f : List Sl → CRes} {as : List Ar} : callA f as (s :: ρ) = if arNd (s :: ρ) as then callP f as (arSl (s :: ρ) as) (s :: ρ) else .fail := rfl
/-! ### targets -/
@[simp] theorem bindT_name : bindT np (.tName i) d ρ = setSl np i (.fz d) ρ := rfl
@[simp] theorem bindT_tup {ts : C} {l : List D} : bindT np (.tTup ts) (.tup l) ρ = bindTs np ts l ρ := rfl
@[simp] theorem bindTs_nil : bindTs np .nil [] ρ = some ρ := rfl
@[simp] theorem bindTs_cons {t ts : C} {l : List D} : bindTs np (.cons t ts) (d :: l) ρ = (bindT np t d ρ).bind fun ρ => bindTs np ts l ρ := rfl
end
@[simp] theorem map_ite {α β : Type} {c : Prop} [Decidable c] {x y : Option α} {f : α → β} : (if c then x else y).map f = if c then x.map f else y.map f := by split <;> rfl
@[simp] theorem obind_ite {α β : Type} {c : Prop} [Decidable c] {x y : Option α} {f : α → Option β} : (if c then x else y).bind f = if c then x.bind f else y.bind f := by split <;> rfl
end PV

/-! PvL: lemmas over the evaluator: comprehensions, loops, equality. -/
namespace PV
open PySem L2
theorem wipeS_length (ρ : Rho) (vs : List Nat) : (wipeS ρ vs).length = ρ.length := by
  induction vs with
  | nil => rfl
  | cons w ws ih => unfold wipeS; rw [List.length_set, ih]
theorem wipeS_get (ρ : Rho) (i : Nat) : ∀ vs : List Nat, (wipeS ρ vs)[i]? = if i ∈ vs ∧ i < ρ.length then some .un else ρ[i]?
  | [] => by simp [wipeS]
  | v :: vs => by
    have hl := wipeS_length ρ vs
    unfold wipeS
    rw [List.getElem?_set, wipeS_get ρ i vs, hl]
    by_cases hv : v = i
    · subst hv
      by_cases hi : v < ρ.length
      · simp [hi]
      · rw [if_pos rfl, if_neg hi, if_neg (fun z => hi z.2), List.getElem?_eq_none (by omega)]
    · have hv' : i ≠ v := fun z => hv z.symm
      simp [hv, hv', List.mem_cons]
theorem backS_get (ρ0 ρ : Rho) (hl : ρ0.length = ρ.length) (i : Nat) : ∀ vs : List Nat, (backS ρ0 ρ vs)[i]? = if i ∈ vs then ρ0[i]? else ρ[i]?
  | [] => by simp [backS]
  | v :: vs => by
    have hlen : ∀ ws : List Nat, (backS ρ0 ρ ws).length = ρ.length := by
      intro ws
      induction ws with
      | nil => rfl
      | cons w ws ih =>
        unfold backS
        split
        · rw [List.length_set, ih]
        · exact ih
    unfold backS
    split
    · rename_i s hs
      have hv : v < ρ.length := by rw [← hl]; exact (List.getElem?_eq_some_iff.mp hs).1
      rw [List.getElem?_set, backS_get ρ0 ρ hl i vs, hlen]
      by_cases h : v = i
      · subst h
        rw [if_pos rfl, if_pos hv, if_pos List.mem_cons_self, hs]
      · have h' : i ≠ v := fun z => h z.symm
        simp [h, h', List.mem_cons]
    · rename_i hs
      rw [backS_get ρ0 ρ hl i vs]
      by_cases h : v = i
      · subst h
        rw [if_pos List.mem_cons_self]
        split
        · rfl
        · rw [hs]
          exact List.getElem?_eq_none (by rw [← hl]; exact List.getElem?_eq_none_iff.mp hs)
      · have h' : i ≠ v := fun z => h z.symm
        simp [h', List.mem_cons]
theorem back_wipe (ρ : Rho) (vs : List Nat) : backS ρ (wipeS ρ vs) vs = ρ := by
  refine List.ext_getElem? fun i => ?_
  rw [backS_get ρ _ (wipeS_length ρ vs).symm, wipeS_get]
  split
  · rfl
  · rename_i h
    rw [if_neg fun z => h z.1]
/-- a comprehension that changes nothing -/
theorem lcL_pure {bd : D → Rho → Option Rho} {tt : Rho → R Bool} {ee : Rho → R RV} {vs : List Nat} {ρ0 : Rho} {p : D → Bool} {f : D → D} :
    ∀ (ds acc : List D), acc.length + ds.length ≤ maxLen → (∀ d ∈ ds, ∃ ρ1, bd d ρ0 = some ρ1 ∧ tt ρ1 = .ok (p d) ρ1 ∧ (p d = true → (ee ρ1).bind (fun r ρ => toFz ρ r) = .ok (f d) ρ1) ∧ wipeS ρ1 vs = ρ0) →
      lcL bd tt ee vs ds acc ρ0 = .ok (acc ++ (ds.filter p).map f) ρ0
  | [], acc, _, _ => by simp [lcL]
  | d :: ds, acc, hl, h => by
    obtain ⟨ρ1, h1, h2, h3, h4⟩ := h d List.mem_cons_self
    rw [List.length_cons] at hl
    unfold lcL
    simp only [h1, h2, R.bind_ok]
    cases hp : p d with
    | false =>
      rw [if_neg Bool.false_ne_true, h4, lcL_pure ds acc (by omega) fun d' hd => h d' (List.mem_cons_of_mem _ hd), List.filter_cons_of_neg (by simp [hp])]
    | true =>
      rw [if_pos rfl]
      have h3 := h3 hp
      cases hr : ee ρ1 with
      | fail => rw [hr] at h3; cases h3
      | ok r ρ2 =>
        rw [hr] at h3
        have h3 : toFz ρ2 r = .ok (f d) ρ1 := h3
        simp only [R.bind_ok, h3]
        rw [if_pos (by omega), h4, lcL_pure ds (acc ++ [f d]) (by rw [List.length_append]; simp; omega) fun d' hd => h d' (List.mem_cons_of_mem _ hd), List.filter_cons_of_pos hp]
        simp
theorem lcS_pure {np : Nat} {cf : Nat → List Sl → CRes} {elt tg ifs : C} {vs : List Nat} {ds : List D} {ρ : Rho} (p : D → Bool) (f : D → D) (hv : vs.any (fun v => isOw ρ[v]? || decide (v < np)) = false) (hl : ds.length ≤ maxLen)
    (h : ∀ d ∈ ds, ∃ ρ1, bindT np tg d (wipeS ρ vs) = some ρ1 ∧ evT np cf ifs ρ1 = .ok (p d) ρ1 ∧ (p d = true → (evE np cf elt ρ1).bind (fun r ρ => toFz ρ r) = .ok (f d) ρ1) ∧ wipeS ρ1 vs = wipeS ρ vs) :
    lcS np cf elt tg ifs vs ds ρ = .ok (.ow (.lst ((ds.filter p).map f))) ρ := by
  unfold lcS
  rw [hv, if_neg Bool.false_ne_true, lcL_pure ds [] (by simpa using hl) h]
  simp [back_wipe]
theorem filter_true {α : Type} : ∀ l : List α, l.filter (fun _ => true) = l
  | [] => rfl
  | x :: l => by rw [List.filter_cons_of_pos rfl, filter_true l]
/-- .. without a test -/
theorem lcS_map {np : Nat} {cf : Nat → List Sl → CRes} {elt tg : C} {vs : List Nat} {ds : List D} {ρ : Rho} (f : D → D) (hv : vs.any (fun v => isOw ρ[v]? || decide (v < np)) = false) (hl : ds.length ≤ maxLen)
    (h : ∀ d ∈ ds, ∃ s ρ1, bindT np tg d (wipeS ρ vs) = some (s :: ρ1) ∧ (evE np cf elt (s :: ρ1)).bind (fun r ρ => toFz ρ r) = .ok (f d) (s :: ρ1) ∧ wipeS (s :: ρ1) vs = wipeS ρ vs) :
    lcS np cf elt tg .nil vs ds ρ = .ok (.ow (.lst (ds.map f))) ρ := by
  have e := lcS_pure (np := np) (cf := cf) (elt := elt) (tg := tg) (ifs := .nil) (vs := vs) (ds := ds) (ρ := ρ) (fun _ => true) f hv hl fun d hd => by
    obtain ⟨s, ρ1, h1, h2, h3⟩ := h d hd
    exact ⟨s :: ρ1, h1, rfl, fun _ => h2, h3⟩
  rw [e, filter_true]
/-! ### equality -/
theorem eqD_int {i j : Int} : eqD (.int i) (.int j) = some (decide (i = j)) := by
  unfold eqD
  rw [if_pos (show ((D.int i).cmpOk && (D.int j).cmpOk) = true from rfl)]
  show some (i == j) = _
  rw [Bool.beq_eq_decide_eq]
theorem eqD_refl {d : D} (h : d.cmpOk = true) : eqD d d = some true := by
  unfold eqD
  rw [h, if_pos (show (true && true) = true from rfl)]
  have h := (Bool.and_eq_true_iff.mp h).2
  rw [SeqAt.eqv_refl d.py (SeqAt.canLay_of_shaped h)]
/-- data without texts, of at most n levels -/
def D.lev : Nat → D → Bool
  | _, .non => true
  | _, .bl _ => true
  | _, .int _ => true
  | n + 1, .lst l => l.all (D.lev n)
  | n + 1, .tup l => l.all (D.lev n)
  | _, _ => false
theorem pys_map (l : List D) : D.pys l = l.map D.py := by
  induction l with
  | nil => rfl
  | cons d l ih => show d.py :: D.pys l = _; rw [ih]; rfl
theorem plains_all (l : List D) : D.plains l = l.all D.plain := by
  induction l with
  | nil => rfl
  | cons d l ih => show (d.plain && D.plains l) = _; rw [ih]; rfl
theorem canLayAll_all (l : List PyData) : PyData.canLayAll0 l = l.all PyData.canLay0 := by
  induction l with
  | nil => rfl
  | cons d l ih => show (d.canLay0 && PyData.canLayAll0 l) = _; rw [ih]; rfl
theorem depthAll_le {n : Nat} : ∀ l : List PyData, (∀ d ∈ l, d.depth ≤ n) → PyData.depthAll l ≤ n
  | [], _ => Nat.zero_le _
  | d :: l, h => by
    have h1 := h d List.mem_cons_self
    have h2 := depthAll_le l fun x hx => h x (List.mem_cons_of_mem _ hx)
    show max d.depth (PyData.depthAll l) ≤ n
    omega
theorem lev_ok : ∀ (n : Nat) (d : D), d.lev n = true → d.plain = true ∧ d.py.canLay0 = true ∧ d.py.depth ≤ n
  | n, .non, _ => ⟨rfl, rfl, Nat.zero_le _⟩
  | n, .bl _, _ => ⟨rfl, rfl, Nat.zero_le _⟩
  | n, .int _, _ => ⟨rfl, rfl, Nat.zero_le _⟩
  | n + 1, .lst l, h => by
    have h : l.all (D.lev n) = true := h
    have ih := fun d (hd : d ∈ l) => lev_ok n d (List.all_eq_true.mp h d hd)
    refine ⟨?_, ?_, ?_⟩
    · show D.plains l = true
      rw [plains_all]
      exact List.all_eq_true.mpr fun d hd => (ih d hd).1
    · show PyData.canLayAll0 (D.pys l) = true
      rw [canLayAll_all, pys_map, List.all_map]
      exact List.all_eq_true.mpr fun d hd => (ih d hd).2.1
    · show PyData.depthAll (D.pys l) + 1 ≤ n + 1
      have := depthAll_le (n := n) (D.pys l) fun x hx => by
        rw [pys_map] at hx
        obtain ⟨d, hd, rfl⟩ := List.mem_map.mp hx
        exact (ih d hd).2.2
      omega
  | n + 1, .tup l, h => by
    have h : l.all (D.lev n) = true := h
    have ih := fun d (hd : d ∈ l) => lev_ok n d (List.all_eq_true.mp h d hd)
    refine ⟨?_, ?_, ?_⟩
    · show D.plains l = true
      rw [plains_all]
      exact List.all_eq_true.mpr fun d hd => (ih d hd).1
    · show PyData.canLayAll0 (D.pys l) = true
      rw [canLayAll_all, pys_map, List.all_map]
      exact List.all_eq_true.mpr fun d hd => (ih d hd).2.1
    · show PyData.depthAll (D.pys l) + 1 ≤ n + 1
      have := depthAll_le (n := n) (D.pys l) fun x hx => by
        rw [pys_map] at hx
        obtain ⟨d, hd, rfl⟩ := List.mem_map.mp hx
        exact (ih d hd).2.2
      omega
  | 0, .lst _, h => by cases h
  | 0, .tup _, h => by cases h
  | n, .str _, h => by cases n <;> cases h
  | n, .dct _ _, h => by cases n <;> cases h
  | n, .dcT _ _, h => by cases n <;> cases h
  | n, .obj _ _, h => by cases n <;> cases h
  | n, .scr _, h => by cases n <;> cases h
theorem lev_cmp {d : D} (h : d.lev 10 = true) : d.cmpOk = true := by
  obtain ⟨h1, h2, h3⟩ := lev_ok 10 d h
  unfold D.cmpOk SeqAt.shaped
  rw [h1, h2, decide_eq_true (show d.py.depth ≤ 64 by omega)]
  rfl
theorem eqD_same {d : D} (h : d.lev 10 = true) : eqD d d = some true := eqD_refl (lev_cmp h)
end PV

/-! PvB: how plain data stands in the heap; what a step leaves. -/
namespace PV
open PySem L2
/-- what stands in the module: the known part of the heap, the globals -/
structure KM where
  fr : PySem.W.Frag
  mg : Str → Option Value
abbrev km (X : Cx) : KM := ⟨X.K, X.mg⟩
/-- the object o at p is an instance of the class c, its fields vs -/
def ObO (K : KM) (F : Hp) (p : Addr) (c : Nat) (vs : List V) (o : HO) : Prop := ∃ ci C dx, clsT[c]? = some ci ∧ K.mg ci.name = some (.ref C) ∧
  ((ci.slots = true ∧ F dx = some (.own p) ∧ dx ≠ p ∧ (o = L2.SlO C dx p (vs.map some) ∨ (vs = [] ∧ o = .ins C dx []))) ∨
   (ci.exc = true ∧ ((ci.flds = [] ∧ vs = [] ∧ o = L2.exo p C none) ∨ ∃ f v, ci.flds = [f] ∧ vs = [v] ∧ o = L2.exo p C (some dx) ∧ F dx = some (L2.exd dx [(f, v)]))) ∨
   (ci.slots = false ∧ ci.exc = false ∧ ∃ fs, o = .ins C dx fs ∧ fs.map (·.1) = ci.flds.take vs.length ∧ fs.map (·.2) = vs))
theorem ObO.mono {K : KM} {F F' : Hp} {p : Addr} {c : Nat} {vs : List V} {o : HO} (e : Same F F') (h : ObO K F p c vs o) : ObO K F' p c vs o := by
  obtain ⟨ci, C, dx, h1, h2, h3⟩ := h
  refine ⟨ci, C, dx, h1, h2, ?_⟩
  rcases h3 with ⟨a, b, c⟩ | ⟨a, b | ⟨f, v, b1, b2, b3, b4⟩⟩ | h3
  · exact .inl ⟨a, e _ _ b, c⟩
  · exact .inr (.inl ⟨a, .inl b⟩)
  · exact .inr (.inl ⟨a, .inr ⟨f, v, b1, b2, b3, e _ _ b4⟩⟩)
  · exact .inr (.inr h3)
mutual
/-- v is the data d, all of it in F -/
def Rp (K : KM) (F : Hp) : D → V → Prop
  | .non, v => v = .non
  | .bl b, v => v = .bl b
  | .int i, v => v = .int i
  | .str s, v => v = .str s
  | .lst l, v => ∃ a vs, v = .ref a ∧ F a = some (.lst vs) ∧ RpL K F l vs
  | .tup l, v => ∃ a vs, v = .ref a ∧ F a = some (.tup vs) ∧ RpL K F l vs
  | .dct ks l, v => ∃ a od kvs, v = .ref a ∧ F a = some (.frz od (.dK kvs)) ∧ kvs.map (·.1) = ks ∧ RpL K F l (kvs.map (·.2))
  | .dcT ks l, v => ∃ a od kvs, v = .ref a ∧ F a = some (.frz od (.dT kvs)) ∧ kvs.map (·.1) = ks ∧ RpL K F l (kvs.map (·.2))
  | .obj c l, v => ∃ a o vs, v = .ref a ∧ F a = some o ∧ ObO K F a c vs o ∧ RpL K F l vs
  | .scr l, v => ∃ a, v = .ref a ∧ SqL K.fr F a (l.map V.int)
def RpL (K : KM) (F : Hp) : List D → List V → Prop
  | [], vs => vs = []
  | d :: l, vs => ∃ v r, vs = v :: r ∧ Rp K F d v ∧ RpL K F l r
end
/-- the object o is the data d, its parts in F -/
def RpO (K : KM) (F : Hp) (p : Addr) : D → HO → Prop
  | .lst l, o => ∃ vs, o = .lst vs ∧ RpL K F l vs
  | .dct ks l, o => ∃ kvs, o = .dK kvs ∧ kvs.map (·.1) = ks ∧ RpL K F l (kvs.map (·.2))
  | .dcT ks l, o => ∃ kvs, o = .dT kvs ∧ kvs.map (·.1) = ks ∧ RpL K F l (kvs.map (·.2))
  | .obj c l, o => ∃ vs, ObO K F p c vs o ∧ RpL K F l vs
  | _, _ => False
section
variable {K : KM} {F F' H H' : Hp}
mutual
theorem Rp.mono (e : Same F F') : ∀ (d : D) (v : V), Rp K F d v → Rp K F' d v
  | .non, _, h => h
  | .bl _, _, h => h
  | .int _, _, h => h
  | .str _, _, h => h
  | .lst l, v, h => by
    obtain ⟨a, vs, rfl, h1, h2⟩ := h
    exact ⟨a, vs, rfl, e _ _ h1, RpL.mono e l vs h2⟩
  | .tup l, v, h => by
    obtain ⟨a, vs, rfl, h1, h2⟩ := h
    exact ⟨a, vs, rfl, e _ _ h1, RpL.mono e l vs h2⟩
  | .dct ks l, v, h => by
    obtain ⟨a, od, kvs, rfl, h1, h3, h2⟩ := h
    exact ⟨a, od, kvs, rfl, e _ _ h1, h3, RpL.mono e l _ h2⟩
  | .dcT ks l, v, h => by
    obtain ⟨a, od, kvs, rfl, h1, h3, h2⟩ := h
    exact ⟨a, od, kvs, rfl, e _ _ h1, h3, RpL.mono e l _ h2⟩
  | .obj c l, v, h => by
    obtain ⟨a, o, vs, rfl, h1, h2, h3⟩ := h
    exact ⟨a, o, vs, rfl, e _ _ h1, h2.mono e, RpL.mono e l vs h3⟩
  | .scr l, v, h => by
    obtain ⟨a, rfl, h1⟩ := h
    exact ⟨a, rfl, e.seq h1⟩
theorem RpL.mono (e : Same F F') : ∀ (l : List D) (vs : List V), RpL K F l vs → RpL K F' l vs
  | [], _, h => h
  | d :: l, _, h => by
    obtain ⟨v, r, rfl, h1, h2⟩ := h
    exact ⟨v, r, rfl, Rp.mono e d v h1, RpL.mono e l r h2⟩
end
theorem RpO.mono {p : Addr} (e : Same F F') : ∀ {d : D} {o : HO}, RpO K F p d o → RpO K F' p d o
  | .lst l, _, h => by obtain ⟨vs, rfl, h⟩ := h; exact ⟨vs, rfl, RpL.mono e l vs h⟩
  | .dct ks l, _, h => by obtain ⟨vs, rfl, h3, h⟩ := h; exact ⟨vs, rfl, h3, RpL.mono e l _ h⟩
  | .dcT ks l, _, h => by obtain ⟨vs, rfl, h3, h⟩ := h; exact ⟨vs, rfl, h3, RpL.mono e l _ h⟩
  | .non, _, h => h.elim
  | .bl _, _, h => h.elim
  | .int _, _, h => h.elim
  | .str _, _, h => h.elim
  | .tup _, _, h => h.elim
  | .obj c l, _, h => by obtain ⟨vs, h1, h2⟩ := h; exact ⟨vs, h1.mono e, RpL.mono e l vs h2⟩
  | .scr _, _, h => h.elim
/-- a dict that never changes any more is locked -/
def frzO (od : Obj) : HO → HO
  | .dK kvs => .frz od (.dK kvs)
  | .dT kvs => .frz od (.dT kvs)
  | o => o
theorem rp_of {p : Addr} {o : HO} {od : Obj} (e : F p = some (frzO od o)) : ∀ {d : D}, RpO K F p d o → Rp K F d (.ref p)
  | .lst l, h => by obtain ⟨vs, rfl, h⟩ := h; exact ⟨p, vs, rfl, e, h⟩
  | .dct ks l, h => by obtain ⟨vs, rfl, h3, h⟩ := h; exact ⟨p, od, vs, rfl, e, h3, h⟩
  | .dcT ks l, h => by obtain ⟨vs, rfl, h3, h⟩ := h; exact ⟨p, od, vs, rfl, e, h3, h⟩
  | .non, h => h.elim
  | .bl _, h => h.elim
  | .int _, h => h.elim
  | .str _, h => h.elim
  | .tup _, h => h.elim
  | .obj c l, h => by
    obtain ⟨vs, h1, h2⟩ := h
    have ho : frzO od o = o := by
      obtain ⟨ci, C, dx, _, _, h3⟩ := h1
      rcases h3 with ⟨_, _, _, rfl | ⟨_, rfl⟩⟩ | ⟨_, ⟨_, _, rfl⟩ | ⟨_, _, _, _, rfl, _⟩⟩ | ⟨_, _, fs, rfl, _⟩ <;> rfl
    rw [ho] at e
    exact ⟨p, o, vs, rfl, e, h1, h2⟩
  | .scr _, h => h.elim
theorem RpL.length : ∀ {l : List D} {vs : List V}, RpL K F l vs → vs.length = l.length
  | [], _, h => by rw [show _ = [] from h]; rfl
  | d :: l, _, h => by
    obtain ⟨v, r, rfl, h1, h2⟩ := h
    rw [List.length_cons, List.length_cons, RpL.length h2]
theorem RpL.get : ∀ {l : List D} {vs : List V} {i : Nat} {d : D}, RpL K F l vs → l[i]? = some d → ∃ v, vs[i]? = some v ∧ Rp K F d v
  | [], _, _, _, _, e => by simp at e
  | d :: l, _, 0, _, h, e => by
    obtain ⟨v, r, rfl, h1, h2⟩ := h
    cases e
    exact ⟨v, rfl, h1⟩
  | d :: l, _, i + 1, d', h, e => by
    obtain ⟨v, r, rfl, h1, h2⟩ := h
    obtain ⟨v', e', h'⟩ := RpL.get (i := i) h2 (by simpa using e)
    exact ⟨v', by simpa using e', h'⟩
theorem RpL.append : ∀ {l m : List D} {vs ws : List V}, RpL K F l vs → RpL K F m ws → RpL K F (l ++ m) (vs ++ ws)
  | [], _, _, _, h, h' => by rw [show _ = [] from h]; exact h'
  | d :: l, m, _, ws, h, h' => by
    obtain ⟨v, r, rfl, h1, h2⟩ := h
    exact ⟨v, r ++ ws, rfl, h1, RpL.append h2 h'⟩
theorem RpL.one {d : D} {v : V} (h : Rp K F d v) : RpL K F [d] [v] := ⟨v, [], rfl, h, rfl⟩
theorem RpL.set : ∀ {l : List D} {vs : List V} {d : D} {v : V} (i : Nat), RpL K F l vs → Rp K F d v → RpL K F (l.set i d) (vs.set i v)
  | [], _, _, _, _, h, _ => by rw [show _ = [] from h]; exact rfl
  | d :: l, _, _, _, 0, h, h' => by
    obtain ⟨v, r, rfl, h1, h2⟩ := h
    exact ⟨_, r, rfl, h', h2⟩
  | d :: l, _, _, _, i + 1, h, h' => by
    obtain ⟨v, r, rfl, h1, h2⟩ := h
    exact ⟨v, _, rfl, h1, RpL.set i h2 h'⟩
theorem RpL.take : ∀ {l : List D} {vs : List V} (n : Nat), RpL K F l vs → RpL K F (l.take n) (vs.take n)
  | _, _, 0, _ => rfl
  | [], _, n + 1, h => by rw [show _ = [] from h]; exact rfl
  | d :: l, _, n + 1, h => by
    obtain ⟨v, r, rfl, h1, h2⟩ := h
    exact ⟨v, _, rfl, h1, RpL.take n h2⟩
theorem RpL.drop : ∀ {l : List D} {vs : List V} (n : Nat), RpL K F l vs → RpL K F (l.drop n) (vs.drop n)
  | _, _, 0, h => h
  | [], _, n + 1, h => by rw [show _ = [] from h]; exact rfl
  | d :: l, _, n + 1, h => by
    obtain ⟨v, r, rfl, h1, h2⟩ := h
    exact RpL.drop n h2
mutual
theorem Rp.dp : ∀ (d : D) (v : V), d.plain = true → Rp K F d v → Dp K.fr F v d.py
  | .non, _, _, h => by rw [show _ = V.non from h]; exact .non
  | .bl b, _, _, h => by rw [show _ = V.bl b from h]; exact .bl b
  | .int b, _, _, h => by rw [show _ = V.int b from h]; exact .int b
  | .str b, _, _, h => by rw [show _ = V.str b from h]; exact .str b
  | .lst l, v, p, h => by
    obtain ⟨a, vs, rfl, h1, h2⟩ := h
    exact .lst (SqL.of h1) (RpL.dp l vs p h2)
  | .tup l, v, p, h => by
    obtain ⟨a, vs, rfl, h1, h2⟩ := h
    exact .tup (SqT.of h1) (RpL.dp l vs p h2)
  | .dct _ _, _, p, _ => by cases p
  | .dcT _ _, _, p, _ => by cases p
  | .obj _ _, _, p, _ => by cases p
  | .scr _, _, p, _ => by cases p
theorem RpL.dp : ∀ (l : List D) (vs : List V), D.plains l = true → RpL K F l vs → DpAll K.fr F vs (D.pys l)
  | [], _, _, h => by rw [show _ = [] from h]; exact .nil
  | d :: l, _, p, h => by
    obtain ⟨v, r, rfl, h1, h2⟩ := h
    have p' : d.plain = true ∧ D.plains l = true := by simpa [D.plains] using p
    exact .cons (Rp.dp d v p'.1 h1) (RpL.dp l r p'.2 h2)
end
end

/-- the address that the name i alone holds -/
def OwnAt (ρ : Rho) (σ : St) (i : Nat) (p : Addr) : Prop := ∃ d, ρ[i]? = some (.ow d) ∧ σ[i]? = some (some (.ref p))
def Live (ρ : Rho) (i : Nat) : Prop := ∃ d, ρ[i]? = some (.fz d) ∨ ρ[i]? = some (.ow d)
def SlOk (K : KM) (F H : Hp) : Option Sl → Option (Option V) → Prop
  | some (.fz d), w => ∃ v, w = some (some v) ∧ Rp K F d v
  | some (.ow d), w => ∃ p o, w = some (some (.ref p)) ∧ H p = some o ∧ F p = none ∧ RpO K F p d o
  | _, _ => True
/-- a def's entry: the heap, what never changes, the parameters, what they alone hold -/
structure Bs where
  H : Hp
  F : Hp
  np : Nat
  vs : List V
  O : Addr → Prop
structure Rel (K : KM) (B : Bs) (F H : Hp) (ρ : Rho) (σ : St) : Prop where
  same : Same F H
  len : ρ.length = σ.length
  sl : ∀ i : Nat, SlOk K F H ρ[i]? σ[i]?
  dis : ∀ i j p, OwnAt ρ σ i p → OwnAt ρ σ j p → i = j
  sameB : Same B.F F
  pre : ∀ b o, B.H b = some o → ¬ B.O b → H b = some o
  dom : ∀ b o, B.H b = some o → ∃ o', H b = some o'
  frz : ∀ b o, B.F b = none → B.H b = some o → ¬ B.O b → F b = none
  loc : ∀ i p, B.np ≤ i → OwnAt ρ σ i p → B.H p = none
  par : ∀ i p, i < B.np → OwnAt ρ σ i p → B.O p
  arg : ∀ i : Nat, i < B.np → σ[i]? = (B.vs[i]?).map some
/-- what an expression may have done -/
structure Post (K : KM) (B : Bs) (σ : St) (F H : Hp) (ρ : Rho) (F' H' : Hp) (ρ' : Rho) : Prop where
  same : Same F F'
  rel : Rel K B F' H' ρ' σ
  pres : ∀ b o, H b = some o → (∀ i, ¬ OwnAt ρ σ i b) → H' b = some o
  dom : ∀ b o, H b = some o → ∃ o', H' b = some o'
  own : ∀ i p, OwnAt ρ' σ i p → OwnAt ρ σ i p
  fr : ∀ b o, F b = none → H b = some o → (∀ i, ¬ OwnAt ρ σ i b) → F' b = none
  live : ∀ i, Live ρ i → Live ρ' i
def RvOk (K : KM) (F H : Hp) (ρ : Rho) (σ : St) : RV → V → Prop
  | .fz d, v => Rp K F d v
  | .ow d, v => ∃ p o, v = .ref p ∧ H p = some o ∧ F p = none ∧ RpO K F p d o ∧ ∀ i, ¬ OwnAt ρ σ i p
  | .bor i, v => σ[i]? = some (some v) ∧ Live ρ i
def Fresh (H : Hp) : RV → V → Prop
  | .ow _, v => ∀ p, v = .ref p → H p = none
  | _, _ => True
/-- v may be read as d -/
def Ct (K : KM) (F H : Hp) (d : D) (v : V) : Prop := Rp K F d v ∨ ∃ p o, v = .ref p ∧ H p = some o ∧ RpO K F p d o
section
variable {K : KM} {B : Bs} {σ : St} {F F1 F2 F' H H1 H2 H' : Hp} {ρ ρ1 ρ2 ρ' : Rho} {r : RV} {v : V} {d : D}
theorem Post.refl (h : Rel K B F H ρ σ) : Post K B σ F H ρ F H ρ :=
  ⟨Same.refl F, h, fun _ _ e _ => e, fun _ o e => ⟨o, e⟩, fun _ _ e => e, fun _ _ e _ _ => e, fun _ e => e⟩
theorem Post.trans (a : Post K B σ F H ρ F1 H1 ρ1) (b : Post K B σ F1 H1 ρ1 F2 H2 ρ2) : Post K B σ F H ρ F2 H2 ρ2 where
  same := a.same.trans b.same
  rel := b.rel
  pres := fun c o e n => b.pres c o (a.pres c o e n) fun i q => n i (a.own i c q)
  dom := fun c o e => by
    obtain ⟨o', e'⟩ := a.dom c o e
    exact b.dom c o' e'
  own := fun i p q => a.own i p (b.own i p q)
  fr := fun c o e h n => by
    have e' := a.pres c o h n
    exact b.fr c o (a.fr c o e h n) e' fun i q => n i (a.own i c q)
  live := fun i l => b.live i (a.live i l)
theorem RvOk.step (a : Post K B σ F1 H1 ρ1 F2 H2 ρ2) : ∀ {r : RV} {v : V}, RvOk K F1 H1 ρ1 σ r v → RvOk K F2 H2 ρ2 σ r v
  | .fz d, v, h => Rp.mono a.same d v h
  | .ow d, v, h => by
    obtain ⟨p, o, rfl, h1, h2, h3, h4⟩ := h
    exact ⟨p, o, rfl, a.pres p o h1 h4, a.fr p o h2 h1 h4, h3.mono a.same, fun i q => h4 i (a.own i p q)⟩
  | .bor i, v, h => ⟨h.1, a.live i h.2⟩
theorem der_ct (h : Rel K B F H ρ σ) : ∀ {r : RV} {v : V} {d : D}, RvOk K F H ρ σ r v → der ρ r = some d → Ct K F H d v
  | .fz d, v, _, q, e => by cases e; exact .inl q
  | .ow d, v, _, q, e => by
    cases e
    obtain ⟨p, o, rfl, h1, h2, h3, h4⟩ := q
    exact .inr ⟨p, o, rfl, h1, h3⟩
  | .bor i, v, _, q, e => by
    have s := h.sl i
    have e : (match ρ[i]? with | some (.fz d) => some d | some (.ow d) => some d | _ => none) = some _ := e
    rw [q.1] at s
    split at e
    · rename_i d' hd
      cases e
      rw [hd] at s
      obtain ⟨v', e1, e2⟩ := s
      cases e1
      exact .inl e2
    · rename_i d' hd
      cases e
      rw [hd] at s
      obtain ⟨p, o, e1, e2, e3, e4⟩ := s
      cases e1
      exact .inr ⟨p, o, rfl, e2, e4⟩
    · cases e
theorem Ct.int {i : Int} (h : Ct K F H (.int i) v) : v = .int i := by
  rcases h with h | ⟨p, o, _, _, h⟩
  · exact h
  · exact h.elim
theorem Ct.bl {b : Bool} (h : Ct K F H (.bl b) v) : v = .bl b := by
  rcases h with h | ⟨p, o, _, _, h⟩
  · exact h
  · exact h.elim
theorem Ct.str {s : Str} (h : Ct K F H (.str s) v) : v = .str s := by
  rcases h with h | ⟨p, o, _, _, h⟩
  · exact h
  · exact h.elim
theorem Ct.non (h : Ct K F H .non v) : v = .non := by
  rcases h with h | ⟨p, o, _, _, h⟩
  · exact h
  · exact h.elim
theorem Ct.lst {l : List D} (s : Same F H) (h : Ct K F H (.lst l) v) : ∃ a vs, v = .ref a ∧ H a = some (.lst vs) ∧ RpL K F l vs := by
  rcases h with ⟨a, vs, rfl, h1, h2⟩ | ⟨p, o, rfl, e, vs, rfl, h⟩
  · exact ⟨a, vs, rfl, s _ _ h1, h2⟩
  · exact ⟨p, vs, rfl, e, h⟩
theorem Ct.tup {l : List D} (s : Same F H) (h : Ct K F H (.tup l) v) : ∃ a vs, v = .ref a ∧ H a = some (.tup vs) ∧ RpL K F l vs := by
  rcases h with ⟨a, vs, rfl, h1, h2⟩ | ⟨p, o, rfl, e, h⟩
  · exact ⟨a, vs, rfl, s _ _ h1, h2⟩
  · exact h.elim
theorem Ct.dp (s : Same F H) (p : d.plain = true) (h : Ct K F H d v) : Dp K.fr H v d.py := by
  rcases h with h | ⟨q, o, rfl, e, h⟩
  · exact Rp.dp d v p (Rp.mono s d v h)
  · cases d with
    | lst l =>
      obtain ⟨vs, rfl, h⟩ := h
      exact .lst (SqL.of e) (RpL.dp l vs p (RpL.mono s l vs h))
    | dct _ _ => cases p
    | dcT _ _ => cases p
    | obj _ _ => cases p
    | scr _ => cases p
    | non => exact h.elim
    | bl _ => exact h.elim
    | int _ => exact h.elim
    | str _ => exact h.elim
    | tup _ => exact h.elim
theorem Ct.dct {ks : List Key} {l : List D} (s : Same F H) (h : Ct K F H (.dct ks l) v) : ∃ a kvs, v = .ref a ∧ Rd H a (.dK kvs) ∧ kvs.map (·.1) = ks ∧ RpL K F l (kvs.map (·.2)) := by
  rcases h with ⟨a, od, kvs, rfl, h1, h2, h3⟩ | ⟨p, o, rfl, e, kvs, rfl, h2, h3⟩
  · exact ⟨a, kvs, rfl, .inr ⟨od, s _ _ h1⟩, h2, h3⟩
  · exact ⟨p, kvs, rfl, .inl e, h2, h3⟩
theorem Ct.dcT {ks : List (List Key)} {l : List D} (s : Same F H) (h : Ct K F H (.dcT ks l) v) : ∃ a kvs, v = .ref a ∧ Rd H a (.dT kvs) ∧ kvs.map (·.1) = ks ∧ RpL K F l (kvs.map (·.2)) := by
  rcases h with ⟨a, od, kvs, rfl, h1, h2, h3⟩ | ⟨p, o, rfl, e, kvs, rfl, h2, h3⟩
  · exact ⟨a, kvs, rfl, .inr ⟨od, s _ _ h1⟩, h2, h3⟩
  · exact ⟨p, kvs, rfl, .inl e, h2, h3⟩
theorem Ct.obj {c : Nat} {l : List D} (s : Same F H) (h : Ct K F H (.obj c l) v) : ∃ a o vs, v = .ref a ∧ H a = some o ∧ ObO K F a c vs o ∧ RpL K F l vs := by
  rcases h with ⟨a, o, vs, rfl, h1, h2, h3⟩ | ⟨p, o, rfl, e, vs, h1, h2⟩
  · exact ⟨a, o, vs, rfl, s _ _ h1, h2, h3⟩
  · exact ⟨p, o, vs, rfl, e, h1, h2⟩
theorem Ct.scr {l : List Int} (s : Same F H) (h : Ct K F H (.scr l) v) : ∃ a, v = .ref a ∧ SqL K.fr H a (l.map V.int) := by
  rcases h with ⟨a, rfl, h1⟩ | ⟨p, o, rfl, e, h⟩
  · exact ⟨a, rfl, s.seq h1⟩
  · exact h.elim
theorem upd_self {H : Hp} {p : Addr} {o : HO} (h : H p = some o) : upd H p o = H := by
  funext b
  by_cases hb : b = p
  · subst hb; rw [upd_same, h]
  · rw [upd_ne hb]
/-- the slot i changes its word alone: F grows by what it held -/
theorem Rel.freeze (h : Rel K B F H ρ σ) {i : Nat} {d : D} (e : ρ[i]? = some (.ow d)) : ∃ p o, σ[i]? = some (some (.ref p)) ∧ H p = some o ∧ F p = none ∧ RpO K F p d o ∧ ∀ od,
    Post K B σ F H ρ (upd F p (frzO od o)) (upd H p (frzO od o)) (ρ.set i (.fz d)) ∧ Rp K (upd F p (frzO od o)) d (.ref p) := by
  have s := h.sl i
  rw [e] at s
  obtain ⟨p, o, e1, e2, e3, e4⟩ := s
  refine ⟨p, o, e1, e2, e3, e4, fun od => ?_⟩
  have sm : Same F (upd F p (frzO od o)) := fun b x q => by
    rw [upd_ne (ne_of_none q e3)]
    exact q
  have smH : Same (upd F p (frzO od o)) (upd H p (frzO od o)) := fun b x q => by
    by_cases hb : b = p
    · subst hb
      rw [upd_same] at q ⊢
      exact q
    · rw [upd_ne hb] at q ⊢
      exact h.same b x q
  have hi : i < ρ.length := (List.getElem?_eq_some_iff.mp e).1
  have oi : OwnAt ρ σ i p := ⟨d, e, e1⟩
  have ow' : ∀ j q, OwnAt (ρ.set i (.fz d)) σ j q → j ≠ i ∧ OwnAt ρ σ j q := fun j q ⟨d', g1, g2⟩ => by
    by_cases hj : j = i
    · subst hj
      rw [List.getElem?_set_self hi] at g1
      cases g1
    · rw [List.getElem?_set_ne (Ne.symm hj)] at g1
      exact ⟨hj, d', g1, g2⟩
  have rp : Rp K (upd F p (frzO od o)) d (.ref p) := rp_of upd_same (e4.mono sm)
  have hdom : ∀ b x, H b = some x → ∃ o', upd H p (frzO od o) b = some o' := fun b x q => by
    by_cases hb : b = p
    · subst hb; exact ⟨_, upd_same⟩
    · rw [upd_ne hb]; exact ⟨x, q⟩
  have hne : ∀ b x, B.H b = some x → ¬ B.O b → b ≠ p := fun b x g n z => by
    subst z
    by_cases hn : B.np ≤ i
    · have := h.loc i b hn oi
      rw [this] at g
      cases g
    · exact n (h.par i b (by omega) oi)
  refine ⟨⟨sm, ⟨smH, by rw [List.length_set]; exact h.len, fun j => ?_, fun j k q a b => h.dis j k q (ow' j q a).2 (ow' k q b).2, h.sameB.trans sm, fun b x g n => by rw [upd_ne (hne b x g n)]; exact h.pre b x g n, fun b x g => ?_, fun b x q g n => ?_, fun j q g a => h.loc j q g (ow' j q a).2, fun j q g a => h.par j q g (ow' j q a).2, h.arg⟩,
    fun b x q n => by rw [upd_ne fun z => n i (by rw [z]; exact oi)]; exact q, hdom, fun j q a => (ow' j q a).2, fun b x q g n => ?_, fun j l => ?_⟩, rp⟩
  · by_cases hj : j = i
    · subst hj
      rw [List.getElem?_set_self hi, e1]
      exact ⟨_, rfl, rp⟩
    · rw [List.getElem?_set_ne (Ne.symm hj)]
      have sj := h.sl j
      cases g : ρ[j]? with
      | none => trivial
      | some w =>
        rw [g] at sj
        cases w with
        | un => trivial
        | fz d' =>
          obtain ⟨v', q1, q2⟩ := sj
          exact ⟨v', q1, Rp.mono sm d' v' q2⟩
        | ow d' =>
          obtain ⟨p', o', q1, q2, q3, q4⟩ := sj
          have hpp : p' ≠ p := fun z => hj (h.dis j i p ⟨d', g, by rw [q1, z]⟩ oi)
          refine ⟨p', o', q1, by rw [upd_ne hpp]; exact q2, ?_, q4.mono sm⟩
          rw [upd_ne hpp]
          exact q3
  · obtain ⟨o', q⟩ := h.dom b x g
    exact hdom b o' q
  · rw [upd_ne (hne b x g n)]
    exact h.frz b x q g n
  · rw [upd_ne fun z => n i (by rw [z]; exact oi)]
    exact q
  · obtain ⟨d', l⟩ := l
    by_cases hj : j = i
    · subst hj
      exact ⟨d, .inl (List.getElem?_set_self hi)⟩
    · unfold Live
      rw [List.getElem?_set_ne (Ne.symm hj)]
      exact ⟨d', l⟩
/-- a new thing that no name holds is never changed from now on -/
theorem Post.freezeAs {p : Addr} {o : HO} (o' : HO) (h0 : Rel K B F H ρ σ) (a : Post K B σ F H ρ F1 H1 ρ1) (e2 : H1 p = some o) (e3 : F1 p = none) (n : ∀ i, ¬ OwnAt ρ1 σ i p) (hf : H p = none) : Post K B σ F H ρ (upd F1 p o') (upd H1 p o') ρ1 := by
  have h := a.rel
  have hB : B.H p = none := by
    cases q : B.H p with
    | none => rfl
    | some x =>
      obtain ⟨_, z⟩ := h0.dom p x q
      rw [hf] at z
      cases z
  have sm : Same F1 (upd F1 p o') := fun b x q => by
    rw [upd_ne (ne_of_none q e3)]
    exact q
  have smH : Same (upd F1 p o') (upd H1 p o') := fun b x q => by
    by_cases hb : b = p
    · subst hb
      rw [upd_same] at q ⊢
      exact q
    · rw [upd_ne hb] at q ⊢
      exact h.same b x q
  have hdom : ∀ b x, H1 b = some x → ∃ y, upd H1 p o' b = some y := fun b x q => by
    by_cases hb : b = p
    · subst hb; exact ⟨_, upd_same⟩
    · rw [upd_ne hb]; exact ⟨x, q⟩
  refine ⟨a.same.trans sm, ⟨smH, h.len, fun j => ?_, h.dis, h.sameB.trans sm, fun b x g m => by rw [upd_ne (ne_of_none g hB)]; exact h.pre b x g m, fun b x g => ?_, fun b x q g m => ?_, h.loc, h.par, h.arg⟩, fun b x q m => by rw [upd_ne (ne_of_none q hf)]; exact a.pres b x q m, fun b x g => ?_, a.own, fun b x q g m => ?_, a.live⟩
  · have sj := h.sl j
    cases g : ρ1[j]? with
    | none => trivial
    | some w =>
      rw [g] at sj
      cases w with
      | un => trivial
      | fz d' =>
        obtain ⟨v', q1, q2⟩ := sj
        exact ⟨v', q1, Rp.mono sm d' v' q2⟩
      | ow d' =>
        obtain ⟨p', o2, q1, q2, q3, q4⟩ := sj
        have hpp : p' ≠ p := fun z => n j ⟨d', g, by rw [q1, z]⟩
        refine ⟨p', o2, q1, by rw [upd_ne hpp]; exact q2, ?_, q4.mono sm⟩
        rw [upd_ne hpp]
        exact q3
  · obtain ⟨y, q⟩ := h.dom b x g
    exact hdom b y q
  · rw [upd_ne (ne_of_none g hB)]
    exact h.frz b x q g m
  · obtain ⟨y, q⟩ := a.dom b x g
    exact hdom b y q
  · rw [upd_ne (ne_of_none g hf)]
    exact a.fr b x q g m
theorem Post.freezeNew {p : Addr} {o : HO} (h0 : Rel K B F H ρ σ) (a : Post K B σ F H ρ F1 H1 ρ1) (e2 : H1 p = some o) (e3 : F1 p = none) (n : ∀ i, ¬ OwnAt ρ1 σ i p) (hf : H p = none) : Post K B σ F H ρ (upd F1 p o) H1 ρ1 := by
  have := a.freezeAs o h0 e2 e3 n hf
  rw [upd_self e2] at this
  exact this
/-- at this heap, or at one where one thing is locked -/
def Lk (H : Hp) (G : Hp → Prop) : Prop := G H ∨ ∃ p o, H p = some o ∧ ∀ od, G (upd H p (frzO od o))
theorem Lk.imp {G G' : Hp → Prop} (h : Lk H G) (k : ∀ H', G H' → G' H') : Lk H G' := by
  rcases h with h | ⟨p, o, e, h⟩
  · exact .inl (k _ h)
  · exact .inr ⟨p, o, e, fun od => k _ (h od)⟩
/-- toFz: from a value to data that never changes -/
theorem Post.toFz {r : RV} {d : D} {ρ2 : Rho} (h0 : Rel K B F H ρ σ) (a : Post K B σ F H ρ F1 H1 ρ1) (q : RvOk K F1 H1 ρ1 σ r v) (f : Fresh H r v) (e : toFz ρ1 r = .ok d ρ2) : Lk H1 fun H2 => ∃ F2, Post K B σ F H ρ F2 H2 ρ2 ∧ Rp K F2 d v := by
  cases r with
  | fz d' =>
    cases e
    exact .inl ⟨F1, a, q⟩
  | ow d' =>
    cases e
    obtain ⟨p, o, rfl, h1, h2, h3, h4⟩ := q
    refine .inr ⟨p, o, h1, fun od => ?_⟩
    have sm : Same F1 (upd F1 p (frzO od o)) := fun b x q => by
      rw [upd_ne (ne_of_none q h2)]
      exact q
    exact ⟨upd F1 p (frzO od o), a.freezeAs _ h0 h1 h2 h4 (f p rfl), rp_of upd_same (h3.mono sm)⟩
  | bor i =>
    have e : (match ρ1[i]? with | some (.fz d) => R.ok d ρ1 | some (.ow d) => .ok d (ρ1.set i (.fz d)) | _ => .fail) = .ok d ρ2 := e
    have s := a.rel.sl i
    rw [q.1] at s
    split at e
    · rename_i d' hd
      cases e
      rw [hd] at s
      obtain ⟨v', e1, e2⟩ := s
      cases e1
      exact .inl ⟨F1, a, e2⟩
    · rename_i d' hd
      cases e
      obtain ⟨p, o, g1, g2, g3, g4, g5⟩ := a.rel.freeze hd
      rw [q.1] at g1
      cases g1
      exact .inr ⟨p, o, g2, fun od => ⟨_, a.trans (g5 od).1, (g5 od).2⟩⟩
    · cases e
/-- a new object stands in the heap; nothing else has changed -/
theorem Post.new {p : Addr} {o : HO} (h : Rel K B F H ρ σ) (hp : H p = none) : Post K B σ F H ρ F (upd H p o) ρ := by
  have sm : Same H (upd H p o) := fun b x q => by
    rw [upd_ne (ne_of_none q hp)]
    exact q
  refine ⟨Same.refl F, ⟨h.same.trans sm, h.len, fun j => ?_, h.dis, h.sameB, fun b x q n => sm _ _ (h.pre b x q n), fun b x q => ?_, h.frz, h.loc, h.par, h.arg⟩, fun b x q _ => sm b x q, fun b x q => ⟨x, sm b x q⟩, fun _ _ z => z, fun _ _ q _ _ => q, fun _ l => l⟩
  · have sj := h.sl j
    cases g : ρ[j]? with
    | none => trivial
    | some w =>
      rw [g] at sj
      cases w with
      | un => trivial
      | fz d' => exact sj
      | ow d' =>
        obtain ⟨p', o', q1, q2, q3, q4⟩ := sj
        exact ⟨p', o', q1, sm _ _ q2, q3, q4⟩
  · obtain ⟨y, z⟩ := h.dom b x q
    exact ⟨y, sm _ _ z⟩
theorem Rel.newFree (h : Rel K B F H ρ σ) {p : Addr} (hp : H p = none) : F p = none ∧ ∀ i, ¬ OwnAt ρ σ i p := by
  refine ⟨h.same.free hp, fun i ⟨d, g1, g2⟩ => ?_⟩
  have s := h.sl i
  rw [g1] at s
  obtain ⟨p', o', q1, q2, _⟩ := s
  rw [g2] at q1
  cases q1
  rw [hp] at q2
  cases q2
/-- a new list (dict) as a value -/
theorem RvOk.newOw {p : Addr} {o : HO} (h : Rel K B F H ρ σ) (hp : H p = none) (q : RpO K F p d o) : RvOk K F (upd H p o) ρ σ (.ow d) (.ref p) :=
  ⟨p, o, rfl, upd_same, (h.newFree hp).1, q, (h.newFree hp).2⟩
/-- a new tuple: it never changes -/
theorem Post.newTup {p : Addr} {vs : List V} {l : List D} (h : Rel K B F H ρ σ) (hp : H p = none) (q : RpL K F l vs) : Post K B σ F H ρ (upd F p (.tup vs)) (upd H p (.tup vs)) ρ ∧ Rp K (upd F p (.tup vs)) (.tup l) (.ref p) := by
  have sm : Same F (upd F p (.tup vs)) := fun b x q => by
    rw [upd_ne (ne_of_none q (h.newFree hp).1)]
    exact q
  exact ⟨(Post.new h hp).freezeNew h upd_same (h.newFree hp).1 (h.newFree hp).2 hp, p, vs, rfl, upd_same, RpL.mono sm l vs q⟩
end
end PV

/-! PvS12: sorted of texts out of a list or a tuple. -/
namespace PV
open PySem L2 PySem.Spec PyProof.Rows
section
variable {X : Cx}
def rSortS (K : PySem.W.Frag) : List V → Hp → VK → Prop := fun xs H Q => ∃ (a : Addr) (ks : List Str), xs = [.ref a] ∧ (SqL K H a (ks.map V.str) ∨ SqT K H a (ks.map V.str)) ∧ ks.length < 64 ∧ ∀ ys p, ys.Perm ks → sortedS ys = true → H p = none → Q (.ref p) (upd H p (.lst (ys.map V.str)))
theorem call_sortS : CallR X (.builtin "sorted") (rSortS X.K) := by
  intro pins s σ H xs us Q I r0 q
  obtain ⟨a, ks, ex, hsq, h64, q⟩ := q
  subst ex
  obtain ⟨u, eu, rx⟩ := vals1 r0
  subst eu
  cases rx
  have src : ∃ (its : List Value) (T : String) (o : Obj) (n : Nat), (T = "list" ∨ T = "tuple") ∧ Vals (ks.map V.str) its ∧ s.heap.get? a = some o ∧ o.cls = .type T ∧ o.data = .seq its.toArray n := by
    rcases hsq with hq | hq
    · obtain ⟨its, r', pl, _⟩ := I.list hq; obtain ⟨o, ho, hc, n, hd⟩ := pl.isList
      exact ⟨its, "list", o, n, .inl rfl, r', ho, hc, hd⟩
    · obtain ⟨its, r', ⟨o, ho, hc, n, hd⟩, _⟩ := I.tuple hq
      exact ⟨its, "tuple", o, n, .inr rfl, r', ho, hc, hd⟩
  obtain ⟨its, T, o, n, hT, rv, ho, hc, hd⟩ := src
  have hal : its.length = ks.length := by
    have z := rv.length
    rw [List.length_map] at z
    exact z.symm
  have h16 : its.length ≤ sizeLine := by rw [hal, sizeLine_eq]; omega
  have hS := rv.strs
  refine Calls.call_function_entry kind_sorted plain_sorted entry_sorted (args_sorted1 _) ?_; unfold Builtin.«sorted»
  refine wpAny_bind (m := checkCount "sorted" 1 1 _) (wpAny_pure (wpAny_bind (wpAny_collect_seq a hT ho hc hd (fun h' hk => ?_) (by rw [List.size_toArray]; exact h16))))
  have I1 : Inv X pins σ H { s with heap := h' } := I.kept hk
  refine wpAny_bind (wpAny_newList ?_ (by rw [List.toList_toArray]; exact h16))
  rw [List.toList_toArray]
  have hoL : (h'.push (seqObj "list" its.toArray 0)).get? h'.objs.size = some (seqObj "list" its.toArray 0) := Heap.get?_push_size _ rfl
  show wpAny _ _ _ _ _ { s with heap := h'.push (seqObj "list" its.toArray 0) }
  refine wpAny_bind (wpAny_holding (wpAny_call_entry slot_list_sort ⟨_, hoL, rfl⟩ entry_list_sort (list_sort_treeK strKind_oneLt (s := { s with heap := h'.push (seqObj "list" its.toArray 0) }) hoL hS.keysOf (fun v₁ v₂ rest e => keyKind_strs (by rw [← e]; exact hS)) (by rw [hal]; exact h64) fun st hp hs => ⟨_, rfl, ?_⟩) (args_list_sort _)))
  obtain ⟨ys, g1, g2, g3⟩ := sorted_out_str (hS := hS) hp hs
  obtain ⟨e', he'⟩ := PyProof.Rows.sortedHeap_at (vs := its) (out := (arrOf st).map (·.2)) hoL
  have hlen : (ys.map V.str).length ≤ sizeLine := by rw [List.length_map, g2.length_eq, ← hal]; exact h16
  refine wpAny_pure ⟨_, rfl, .ref h'.objs.size, upd H h'.objs.size (.lst (ys.map V.str)), I1.laid (t' := s.toks) (fun b u e => ?_) (Nat.le_refl _) (show ObjOk X.prog X.w _ _ _ (.lst (ys.map V.str)) from ⟨hlen, ((arrOf st).map (·.2)).toList, e', vals_of_strs g1, by rw [Array.toArray_toList]; exact he'⟩), rfl, q ys _ g2 g3 (I1.hok.fresh (Nat.le_refl _))⟩
  have lt : b < h'.objs.size := Heap.lt_size e
  exact (sortedHeap_old (Nat.ne_of_lt lt) (by rw [size_push']; exact Nat.lt_succ_of_lt lt)).trans (Heap.get?_push_of_some _ e)
end
end PV

/-! PvS1: judgements; the operators by plain data. -/
namespace PV
open PySem L2
abbrev St := L2.St
structure GE (X : Cx) (e : Expr) (σ : L2.St) (H : Hp) (Q : VK) : Prop where
  run : ∀ pins s, Inv X pins σ H s → wpAny (model X.prog X.w) X.A (eval e X.env) (EP X pins σ Q) X.xe s
structure GT (X : Cx) (e : Expr) (σ : L2.St) (H : Hp) (Q : Bool → Hp → Prop) : Prop where
  run : ∀ pins s, Inv X pins σ H s → wpAny (model X.prog X.w) X.A (isTrue e X.env (eval e X.env)) (TP X pins σ Q) X.xe s
structure GW (X : Cx) (e : Expr) (σ : L2.St) (H : Hp) (Q : Bool → Hp → Prop) : Prop where
  run : ∀ whole pins s, Inv X pins σ H s → wpAny (model X.prog X.w) X.A (isTrue e X.env whole) (TP X pins σ Q) X.xe s
structure GA (X : Cx) (es : List Expr) (σ : L2.St) (H : Hp) (Q : List V → Hp → Prop) : Prop where
  run : ∀ pos pins s, Inv X pins σ H s → wpAny (model X.prog X.w) X.A (spliced (backTo pos (starEach es X.env))) (AP X pins σ Q) X.xe s
structure GI (X : Cx) (tg iter : Expr) (σ : L2.St) (H : Hp) (R : It → Hp → Prop) : Prop where
  run : ∀ pins s, Inv X pins σ H s →
    wpAny (model X.prog X.w) X.A (eval iter X.env) (fun v s1 => wpAny (model X.prog X.w) X.A (pyIter v) (PIE X pins σ tg R) X.xe s1) X.xe s
section
variable {X : Cx} {e : Expr} {σ : L2.St} {H : Hp} {Q Q' : VK}
theorem pe_ge : PE X e (GE X e) := ⟨fun pins s σ H Q I h => h.run pins s I⟩
theorem pt_gt : PT X e (GT X e) := ⟨fun pins s σ H Q I h => h.run pins s I⟩
theorem pw_gw : PW X e (GW X e) := ⟨fun w pins s σ H Q I h => h.run w pins s I⟩
theorem pa_ga {es : List Expr} : PA X es (GA X es) := ⟨fun pos pins s σ H Q I h => h.run pos pins s I⟩
theorem pi_gi {tg iter : Expr} : PI X tg iter (GI X tg iter) := ⟨fun pins s σ H R I h => h.run pins s I⟩
theorem ge_of {t : TE} (h : PE X e t) (q : t σ H Q) : GE X e σ H Q := ⟨fun pins s I => h.run pins s σ H Q I q⟩
theorem gt_of {t : TT} {Q : Bool → Hp → Prop} (h : PT X e t) (q : t σ H Q) : GT X e σ H Q := ⟨fun pins s I => h.run pins s σ H Q I q⟩
theorem gw_of {t : TT} {Q : Bool → Hp → Prop} (h : PW X e t) (q : t σ H Q) : GW X e σ H Q := ⟨fun w pins s I => h.run w pins s σ H Q I q⟩
theorem ga_of {es : List Expr} {t : TA} {Q : List V → Hp → Prop} (h : PA X es t) (q : t σ H Q) : GA X es σ H Q := ⟨fun pos pins s I => h.run pos pins s σ H Q I q⟩
theorem gi_of {tg iter : Expr} {t : TI} {R : It → Hp → Prop} (h : PI X tg iter t) (q : t σ H R) : GI X tg iter σ H R := ⟨fun pins s I => h.run pins s σ H R I q⟩
theorem GE.imp (h : GE X e σ H Q) (k : ∀ v H', Q v H' → Q' v H') : GE X e σ H Q' := ⟨fun pins s I => thn (h.run pins s I) fun u s' ⟨v, H', I', r, q⟩ => ⟨v, H', I', r, k v H' q⟩⟩
end
/-! ### a piece of syntax does what its code does -/
def SE (B : Bs) (X : Cx) (e : Expr) (m : Rho → R RV) : Prop := ∀ F H ρ σ Q, Rel (km X) B F H ρ σ → (∃ r ρ', m ρ = .ok r ρ' ∧ ∀ v F' H', Post (km X) B σ F H ρ F' H' ρ' → RvOk (km X) F' H' ρ' σ r v → Fresh H r v → Q v H') → GE X e σ H Q
def SD (B : Bs) (X : Cx) (e : Expr) (m : Rho → R D) : Prop := ∀ F H ρ σ Q, Rel (km X) B F H ρ σ → (∃ d ρ', m ρ = .ok d ρ' ∧ ∀ v F' H', Post (km X) B σ F H ρ F' H' ρ' → Rp (km X) F' d v → Q v H') → GE X e σ H Q
def SL (B : Bs) (X : Cx) (es : List Expr) (m : Rho → R (List D)) : Prop := ∀ F H ρ σ Q, Rel (km X) B F H ρ σ → (∃ l ρ', m ρ = .ok l ρ' ∧ ∀ vs F' H', Post (km X) B σ F H ρ F' H' ρ' → RpL (km X) F' l vs → Q vs H') → GA X es σ H Q
def ST (B : Bs) (X : Cx) (e : Expr) (m : Rho → R Bool) : Prop := ∀ F H ρ σ Q, Rel (km X) B F H ρ σ → (∃ b ρ', m ρ = .ok b ρ' ∧ ∀ F' H', Post (km X) B σ F H ρ F' H' ρ' → Q b H') → GT X e σ H Q
def SW (B : Bs) (X : Cx) (e : Expr) (m : Rho → R Bool) : Prop := ∀ F H ρ σ Q, Rel (km X) B F H ρ σ → (∃ b ρ', m ρ = .ok b ρ' ∧ ∀ F' H', Post (km X) B σ F H ρ F' H' ρ' → Q b H') → GW X e σ H Q
/-! ### taking evaluations apart -/
theorem bind_ok {α β : Type} {r : R α} {f : α → Rho → R β} {b : β} {ρ' : Rho} (h : r.bind f = .ok b ρ') : ∃ a ρ1, r = .ok a ρ1 ∧ f a ρ1 = .ok b ρ' := by
  cases r with
  | ok a ρ1 => exact ⟨a, ρ1, rfl, h⟩
  | fail => cases h
theorem ofO_ok {α : Type} {o : Option α} {ρ ρ' : Rho} {a : α} (h : ofO o ρ = .ok a ρ') : o = some a ∧ ρ' = ρ := by
  cases o with
  | none => cases h
  | some b => cases h; exact ⟨rfl, rfl⟩
theorem ob2_some {α : Type} {a b : Option D} {f : D → D → Option α} {c : α} (h : ob2 a b f = some c) : ∃ x y, a = some x ∧ b = some y ∧ f x y = some c := by
  cases a with
  | none => cases h
  | some x =>
    cases b with
    | none => cases h
    | some y => exact ⟨x, y, rfl, rfl, h⟩
theorem obind_some {α β : Type} {a : Option α} {f : α → Option β} {c : β} (h : a.bind f = some c) : ∃ x, a = some x ∧ f x = some c := by
  cases a with
  | none => cases h
  | some x => exact ⟨x, rfl, h⟩
theorem omap_some {α β : Type} {a : Option α} {f : α → β} {c : β} (h : a.map f = some c) : ∃ x, a = some x ∧ f x = c := by
  cases a with
  | none => cases h
  | some x => exact ⟨x, rfl, Option.some.inj h⟩
section
variable {B : Bs} {X : Cx} {e a b c : Expr} {pos : Pos}
theorem lk_inv {pins : List (Addr × Obj)} {σ : L2.St} {H : Hp} {s : Shared} {G : Hp → Prop} (I : Inv X pins σ H s) (h : Lk H G) : ∃ H', Inv X pins σ H' s ∧ G H' := by
  rcases h with h | ⟨p, o, e, h⟩
  · exact ⟨H, I, h⟩
  · cases o with
    | dK kvs =>
      obtain ⟨od, I'⟩ := I.lock e True.intro
      exact ⟨_, I', h od⟩
    | dT kvs =>
      obtain ⟨od, I'⟩ := I.lock e True.intro
      exact ⟨_, I', h od⟩
    | _ =>
      have hh := h default
      have e2 := upd_self e
      exact ⟨H, I, by rw [← e2]; exact hh⟩
theorem GE.lk {σ : L2.St} {H : Hp} {Q : VK} (h : GE X e σ H (fun v H1 => Lk H1 (Q v))) : GE X e σ H Q := ⟨fun pins s I => thn (h.run pins s I) fun u s' ⟨v, H', I', r, q⟩ => by
  obtain ⟨H2, I2, q2⟩ := lk_inv I' q
  exact ⟨v, H2, I2, r, q2⟩⟩
theorem GA.lk {es : List Expr} {σ : L2.St} {H : Hp} {Q : List V → Hp → Prop} (h : GA X es σ H (fun v H1 => Lk H1 (Q v))) : GA X es σ H Q := ⟨fun pos pins s I => thn (h.run pos pins s I) fun u s' ⟨v, H', I', r, q⟩ => by
  obtain ⟨H2, I2, q2⟩ := lk_inv I' q
  exact ⟨v, H2, I2, r, q2⟩⟩
theorem SE.sd {m : Rho → R RV} (h : SE B X e m) : SD B X e (fun ρ => (m ρ).bind fun r ρ => toFz ρ r) := by
  intro F H ρ σ Q hr ⟨d, ρ', hm, k⟩
  obtain ⟨r, ρ1, h1, h2⟩ := bind_ok hm
  refine GE.lk (h F H ρ σ _ hr ⟨r, ρ1, h1, fun v F' H' P q f => ?_⟩)
  exact (P.toFz hr q f h2).imp fun H2 ⟨F2, P2, q2⟩ => k v F2 H2 P2 q2
/-- two values, one after the other -/
theorem se2 {ma mb : Rho → R RV} (ha : SE B X a ma) (hb : SE B X b mb) {F H : Hp} {ρ ρ1 ρ2 : Rho} {σ : L2.St} {x y : RV} {G : V → V → Hp → Prop} (hr : Rel (km X) B F H ρ σ) (h1 : ma ρ = .ok x ρ1) (h2 : mb ρ1 = .ok y ρ2)
    (k : ∀ vx vy F2 H2, Post (km X) B σ F H ρ F2 H2 ρ2 → RvOk (km X) F2 H2 ρ2 σ x vx → RvOk (km X) F2 H2 ρ2 σ y vy → G vx vy H2) : GE X a σ H (fun vx H1 => GE X b σ H1 (fun vy H2 => G vx vy H2)) := by
  refine ha F H ρ σ _ hr ⟨x, ρ1, h1, fun vx F1 H1 P1 q1 _ => ?_⟩
  refine hb F1 H1 ρ1 σ _ P1.rel ⟨y, ρ2, h2, fun vy F2 H2 P2 q2 _ => ?_⟩
  exact k vx vy F2 H2 (P1.trans P2) (q1.step P2) q2
/-- behind a step that started at H: new things of the last step are new for H too -/
theorem Fresh.back {K : KM} {F H F1 H1 : Hp} {ρ ρ1 : Rho} {σ : L2.St} {r : RV} {v : V} (P : Post K B σ F H ρ F1 H1 ρ1) (f : Fresh H1 r v) : Fresh H r v := by
  cases r with
  | fz _ => trivial
  | bor _ => trivial
  | ow d =>
    intro p e
    have := f p e
    cases q : H p with
    | none => rfl
    | some o =>
      obtain ⟨o', z⟩ := P.dom p o q
      rw [this] at z
      cases z
/-! ### constants, names -/
variable {np : Nat} {cf : Nat → List Sl → CRes}
theorem se_c {d : D} {v : V} (h : PE X e (tC v)) (q : ∀ F, Rp (km X) F d v) : SE B X e (evE np cf (.con d)) := by
  intro F H ρ σ Q hr ⟨r, ρ', hm, k⟩
  cases hm
  exact ge_of h (k v F H (Post.refl hr) (q F) trivial)
theorem se_int {i j} : SE B X (.Constant (.int i) j pos) (evE np cf (.con (.int i))) := se_c pe_int fun _ => rfl
theorem se_bl {i j} : SE B X (.Constant (.bool i) j pos) (evE np cf (.con (.bl i))) := se_c pe_bl fun _ => rfl
theorem se_non {j} : SE B X (.Constant .none j pos) (evE np cf (.con .non)) := se_c pe_non fun _ => rfl
theorem se_str {x j} : SE B X (.Constant (.str x) j pos) (evE np cf (.con (.str x))) := se_c pe_str fun _ => rfl
theorem se_slot {i : Nat} {x : Str} (hN : X.N[i]? = some x) (hv : Vis X.env.scope x) (hd : (x == ("__debug__" : Str)) = false) (hcd : (x == ("__classdict__" : Str)) = false) : SE B X (.Name x pos) (evE np cf (.slot i)) := by
  intro F H ρ σ Q hr ⟨r, ρ', hm, k⟩
  refine ge_of (pe_var hN hv hd hcd) ?_
  have hm : (match ρ[i]? with | some (.fz d) => R.ok (RV.fz d) ρ | some (.ow _) => .ok (.bor i) ρ | _ => .fail) = .ok r ρ' := hm
  have s := hr.sl i
  split at hm
  · rename_i d hd
    cases hm
    rw [hd] at s
    obtain ⟨v, e1, e2⟩ := s
    exact ⟨v, e1, k v F H (Post.refl hr) e2 trivial⟩
  · rename_i d hd
    cases hm
    rw [hd] at s
    obtain ⟨p, o, e1, e2, e3, e4⟩ := s
    exact ⟨.ref p, e1, k _ F H (Post.refl hr) ⟨e1, d, .inr hd⟩ trivial⟩
  · cases hm
end
/-! ### operators -/
def OpOk (X : Cx) (f : Value → Value → Sem Value) (d1 d2 : D) (r : RV) : Prop := ∃ r0 : R2, OpR X f r0 ∧ ∀ (B : Bs) (σ : L2.St) (x y : V) (F H : Hp) (ρ : Rho) (Q : VK), Rel (km X) B F H ρ σ → Ct (km X) F H d1 x → Ct (km X) F H d2 y →
  (∀ v F' H', Post (km X) B σ F H ρ F' H' ρ → RvOk (km X) F' H' ρ σ r v → Fresh H r v → Q v H') → r0 x y H Q
theorem maxLen_le {n : Nat} (h : n ≤ maxLen) : n ≤ sizeLine := by
  rw [sizeLine_eq]
  unfold maxLen at h
  omega
theorem op_powW {X : Cx} : OpR X (binaryOp .Pow) (rI (fun i j => 0 ≤ j ∧ (Builtin.Int.intBits i : Int) * j ≤ 2 ^ 27) fun i j => .int (i ^ j.toNat)) := opI fun _ _ _ _ _ _ _ hc q => PyProof.Rows.pow_int hc.1 hc.2 q
section
variable {X : Cx}
theorem opok_int {f : Value → Value → Sem Value} {C : Int → Int → Prop} {g : Int → Int → Int} {i j : Int} (h : OpR X f (rI C fun i j => .int (g i j))) (c : C i j) : OpOk X f (.int i) (.int j) (.fz (.int (g i j))) := by
  refine ⟨_, h, fun B σ x y F H ρ Q hr hx hy k => ?_⟩
  exact ⟨i, j, hx.int, hy.int, c, k _ F H (Post.refl hr) rfl trivial⟩
theorem opok_int0 {f : Value → Value → Sem Value} {g : Int → Int → Int} {i j : Int} (h : OpR X f (rI0 fun i j => .int (g i j))) : OpOk X f (.int i) (.int j) (.fz (.int (g i j))) := by
  refine ⟨_, h, fun B σ x y F H ρ Q hr hx hy k => ?_⟩
  exact ⟨i, j, hx.int, hy.int, k _ F H (Post.refl hr) rfl trivial⟩
theorem rpl_flat {K : KM} {F : Hp} {l : List D} {vs : List V} (h : RpL K F l vs) : ∀ n : Nat, RpL K F (List.replicate n l).flatten (List.replicate n vs).flatten
  | 0 => rfl
  | n + 1 => by
    rw [List.replicate_succ, List.replicate_succ, List.flatten_cons, List.flatten_cons]
    exact h.append (rpl_flat h n)
theorem bin_ok : ∀ (op : Operator) (d1 d2 : D) (r : RV), binD op d1 d2 = some r → OpOk X (binaryOp op) d1 d2 r := by
  intro op d1 d2 r h
  unfold binD at h
  split at h
  · cases h
    exact opok_int0 op_add
  · cases h
    exact opok_int0 op_sub
  · split at h
    · rename_i i j hc
      cases h
      refine opok_int op_mul ?_
      unfold mulOk at hc
      rcases Bool.or_eq_true_iff.mp hc with hc | hc <;> have hc := of_decide_eq_true hc
      · exact .inl (by omega)
      · exact .inr (by omega)
    · cases h
  · split at h
    · rename_i i j hc
      cases h
      unfold divOk at hc
      have hc := Bool.and_eq_true_iff.mp hc
      exact opok_int op_fdivW ⟨of_decide_eq_true hc.1, of_decide_eq_true hc.2⟩
    · cases h
  · split at h
    · rename_i i j hc
      cases h
      exact opok_int op_mod hc
    · cases h
  · split at h
    · rename_i i j hc
      cases h
      unfold powOk at hc
      have hc := Bool.and_eq_true_iff.mp hc
      exact opok_int op_powW ⟨of_decide_eq_true hc.1, of_decide_eq_true hc.2⟩
    · cases h
  · split at h
    · rename_i x y hc
      cases h
      refine ⟨_, op_add_str, fun B σ x y F H ρ Q hr hx hy k => ?_⟩
      exact ⟨_, _, hx.str, hy.str, maxLen_le hc, k _ F H (Post.refl hr) rfl trivial⟩
    · cases h
  · split at h
    · rename_i x y hc
      cases h
      refine ⟨_, op_cat, fun B σ v w F H ρ Q hr hx hy k => ?_⟩
      obtain ⟨p, vs, rfl, h1, h2⟩ := hx.lst hr.same
      obtain ⟨q, ws, rfl, h3, h4⟩ := hy.lst hr.same
      refine ⟨p, q, vs, ws, rfl, rfl, h1, h3, by rw [h2.length, h4.length]; exact maxLen_le hc, fun t ht => ?_⟩
      exact k _ F _ (Post.new hr ht) (RvOk.newOw hr ht ⟨_, rfl, h2.append h4⟩) (fun p' e => by cases e; exact ht)
    · cases h
  · split at h
    · rename_i x y hc
      cases h
      refine ⟨_, op_catA, fun B σ v w F H ρ Q hr hx hy k => ?_⟩
      obtain ⟨p, vs, rfl, h1, h2⟩ := hx.tup hr.same
      obtain ⟨q, ws, rfl, h3, h4⟩ := hy.tup hr.same
      have g1 : Rp (km X) F (.tup x) (.ref p) := by
        rcases hx with hx | ⟨_, _, _, _, hx⟩
        · exact hx
        · exact hx.elim
      have g2 : Rp (km X) F (.tup y) (.ref q) := by
        rcases hy with hy | ⟨_, _, _, _, hy⟩
        · exact hy
        · exact hy.elim
      refine ⟨p, q, vs, ws, rfl, rfl, SqT.of h1, SqT.of h3, by rw [h2.length, h4.length]; exact maxLen_le hc, fun e => ?_, fun e e' => ?_, fun _ _ t ht => ?_⟩
      · subst e
        have : x = [] := List.eq_nil_of_length_eq_zero h2.length.symm
        subst this
        exact k _ F H (Post.refl hr) g2 trivial
      · subst e'
        have : y = [] := List.eq_nil_of_length_eq_zero h4.length.symm
        subst this
        refine k _ F H (Post.refl hr) ?_ trivial
        rw [List.append_nil]
        exact g1
      · obtain ⟨P, q⟩ := Post.newTup hr ht (h2.append h4)
        exact k _ _ _ P q trivial
    · cases h
  · split at h
    · rename_i x kk hc
      cases h
      refine ⟨_, op_rep, fun B σ v w F H ρ Q hr hx hy k => ?_⟩
      obtain ⟨p, vs, rfl, h1, h2⟩ := hx.lst hr.same
      obtain ⟨c1, c2, c3⟩ := hc
      unfold maxLen at c2
      refine ⟨p, kk, vs, rfl, hy.int, h1, by omega, by omega, by rw [h2.length]; exact maxLen_le c3, fun t ht => ?_⟩
      exact k _ F _ (Post.new hr ht) (RvOk.newOw hr ht ⟨_, rfl, rpl_flat h2 _⟩) (fun p' e => by cases e; exact ht)
    · cases h
  · cases h
end
section
variable {B : Bs} {X : Cx} {e a b c : Expr} {pos : Pos} {np : Nat} {cf : Nat → List Sl → CRes} {ca cb cc : C}
theorem se_bin {op : Operator} (ha : SE B X a (evE np cf ca)) (hb : SE B X b (evE np cf cb)) : SE B X (.BinOp a op b pos) (evE np cf (.bin op ca cb)) := by
  intro F H ρ σ Q hr ⟨r, ρ', hm, k⟩
  obtain ⟨x, ρ1, h1, hm⟩ := bind_ok hm
  obtain ⟨y, ρ2, h2, hm⟩ := bind_ok hm
  obtain ⟨ho, rfl⟩ := ofO_ok hm
  obtain ⟨d1, d2, e1, e2, e3⟩ := ob2_some ho
  obtain ⟨r0, ok, run⟩ := bin_ok (X := X) op d1 d2 r e3
  refine ge_of (pe_op ok pe_ge pe_ge) (se2 ha hb hr h1 h2 fun vx vy F2 H2 P qx qy => ?_)
  exact run B σ vx vy F2 H2 ρ' Q P.rel (der_ct P.rel qx e1) (der_ct P.rel qy e2) fun v F' H' P' q f => k v F' H' (P.trans P') q (f.back P)
end
end PV

/-! PvS2: comparisons, tests, displays, items, slices, built-ins. -/
namespace PV
open PySem L2
/-! ### comparisons -/
def CmpOk (X : Cx) (op : CmpOp) (d1 d2 : D) (b : Bool) : Prop := ∃ r0 : R2, OpR X (compareOp op) r0 ∧ ∀ (B : Bs) (σ : L2.St) (x y : V) (F H : Hp) (ρ : Rho) (Q : VK), Rel (km X) B F H ρ σ → Ct (km X) F H d1 x → Ct (km X) F H d2 y → Q (.bl b) H → r0 x y H Q
section
variable {X : Cx}
theorem cmp_int {op : CmpOp} {g : Int → Int → Bool} {i j : Int} (h : OpR X (compareOp op) (rI0 fun i j => .bl (g i j))) : CmpOk X op (.int i) (.int j) (g i j) :=
  ⟨_, h, fun B σ x y F H ρ Q hr hx hy k => ⟨i, j, hx.int, hy.int, k⟩⟩
theorem eq_parts {d e : D} {b : Bool} (h : eqD d e = some b) : d.plain = true ∧ SeqAt.shaped d.py = true ∧ e.plain = true ∧ SeqAt.shaped e.py = true ∧ b = PyData.eqv d.py e.py := by
  unfold eqD at h
  split at h
  · rename_i hc
    have hc := Bool.and_eq_true_iff.mp hc
    have h1 := Bool.and_eq_true_iff.mp hc.1
    have h2 := Bool.and_eq_true_iff.mp hc.2
    exact ⟨h1.1, h1.2, h2.1, h2.2, (Option.some.inj h).symm⟩
  · cases h
theorem pys_any (f : PyData → Bool) : ∀ l : List D, (D.pys l).any f = l.any fun z => f z.py
  | [] => rfl
  | d :: l => by
    show (f d.py || (D.pys l).any f) = _
    rw [pys_any f l]
    rfl
theorem key_v {K : KM} {F H : Hp} {d : D} {k : Key} {v : V} (h : keyD d = some k) (q : Ct K F H d v) : v = kV k := by
  cases d with
  | int i => cases h; exact q.int
  | str s => cases h; exact q.str
  | _ => cases h
theorem keys_v {K : KM} {F : Hp} : ∀ {l : List D} {k : List Key} {vs : List V}, keysD l = some k → RpL K F l vs → vs = k.map kV
  | [], k, vs, h, q => by cases h; exact q
  | d :: l, k, vs, h, q => by
    obtain ⟨k1, h1, h2⟩ := obind_some (show (keyD d).bind (fun k => (keysD l).map (k :: ·)) = some k from h)
    obtain ⟨ks, h3, rfl⟩ := omap_some h2
    obtain ⟨v, r, rfl, q1, q2⟩ := q
    rw [key_v (H := F) h1 (.inl q1), keys_v h3 q2]
    rfl
theorem keyT_v {K : KM} {F H : Hp} {d : D} {k : List Key} {v : V} (sm : Same F H) (h : keyT d = some k) (q : Ct K F H d v) : ∃ b, v = .ref b ∧ H b = some (.tup (k.map kV)) := by
  cases d with
  | tup l =>
    obtain ⟨a, vs, rfl, g1, g2⟩ := q.tup sm
    rw [keys_v h g2] at g1
    exact ⟨a, rfl, g1⟩
  | _ => cases h
theorem getK_some {κ : Type} [DecidableEq κ] {K : KM} {F : Hp} {k : κ} {d : D} : ∀ {ks : List κ} {l : List D} {kvs : List (κ × V)}, kvs.map (·.1) = ks → RpL K F l (kvs.map (·.2)) → getK ks l k = some d → ∃ v, valV kvs k = some v ∧ Rp K F d v
  | [], _, _, _, _, h => by cases h
  | k' :: ks, [], _, _, _, h => by cases h
  | k' :: ks, d' :: l, [], e, q, h => by cases e
  | k' :: ks, d' :: l, (k2, v2) :: kvs, e, q, h => by
    have e' : k2 = k' ∧ kvs.map (·.1) = ks := by simpa using e
    obtain ⟨rfl, e'⟩ := e'
    obtain ⟨v, r, hv, q1, q2⟩ := q
    cases hv
    have h : (if k2 = k then some d' else getK ks l k) = some d := h
    by_cases hk : k2 = k
    · rw [if_pos hk] at h
      cases h
      exact ⟨v2, valV_pos (p := (k2, v2)) hk, q1⟩
    · rw [if_neg hk] at h
      rw [valV_neg (p := (k2, v2)) hk]
      exact getK_some e' q2 h
theorem val_mem {κ : Type} [DecidableEq κ] {k : κ} {ks : List κ} {kvs : List (κ × V)} (e : kvs.map (·.1) = ks) : (valV kvs k).isSome = ks.any fun k2 => decide (k2 = k) := by
  subst e
  rw [← valV_any, List.any_map]
  rfl
def rDIn : R2 := fun y x H Q => ∃ a o, x = .ref a ∧ DGet H a y o ∧ Q (.bl o.isSome) H
def rDNotIn : R2 := fun y x H Q => ∃ a o, x = .ref a ∧ DGet H a y o ∧ Q (.bl (!o.isSome)) H
theorem op_din (hu : X.A.units + 65 < cLine) : OpR X (compareOp .In) rDIn := by
  intro pins s σ H y x u v Q I ry rx ⟨a, o, ex, g, q⟩
  subst ex
  cases (show v = Value.ref a from rx)
  exact d_in (by omega) I g ry fun s' I' => ⟨.bl o.isSome, H, I', rfl, q⟩
theorem op_dnotin (hu : X.A.units + 65 < cLine) : OpR X (compareOp .NotIn) rDNotIn := by
  intro pins s σ H y x u v Q I ry rx ⟨a, o, ex, g, q⟩
  subst ex
  cases (show v = Value.ref a from rx)
  exact d_notIn (by omega) I g ry fun s' I' => ⟨.bl (!o.isSome), H, I', rfl, q⟩
theorem in_ok (hu : X.A.units + 65 < cLine) {d e : D} {b : Bool} (h : inD d e = some b) : CmpOk X .In d e b ∧ CmpOk X .NotIn d e (!b) := by
  unfold inD at h
  split at h
  · rename_i z
    cases d with
    | str s =>
      have h : (match s.cps.toList with | [c] => some (decide (c ∈ z.cps.toList)) | _ => none) = some b := h
      cases hs : s.cps.toList with
      | nil => rw [hs] at h; cases h
      | cons c r =>
        cases r with
        | cons _ _ => rw [hs] at h; cases h
        | nil =>
          rw [hs] at h
          cases h
          have es : s = ⟨#[c]⟩ := by
            cases s
            congr
            exact Array.ext' hs
          subst es
          exact ⟨⟨_, op_in_sign, fun B σ x y F H ρ Q hr hx hy k => ⟨_, _, hx.str, hy.str, k⟩⟩, ⟨_, op_notIn_sign, fun B σ x y F H ρ Q hr hx hy k => ⟨_, _, hx.str, hy.str, k⟩⟩⟩
    | _ => cases h
  · split at h
    · rename_i l hc
      cases h
      have hc := Bool.and_eq_true_iff.mp hc
      have h1 := Bool.and_eq_true_iff.mp hc.1
      have h2 := Bool.and_eq_true_iff.mp hc.2
      refine ⟨⟨_, op_inD hu, fun B σ x y F H ρ Q hr hx hy k => ⟨_, D.pys l, hx.dp hr.same h1.1, hy.dp hr.same h2.1, h1.2, h2.2, ?_⟩⟩, ⟨_, op_notInD hu, fun B σ x y F H ρ Q hr hx hy k => ⟨_, D.pys l, hx.dp hr.same h1.1, hy.dp hr.same h2.1, h1.2, h2.2, ?_⟩⟩⟩
      · rw [pys_any]; exact k
      · rw [pys_any]; exact k
    · cases h
  · rename_i ks vs
    obtain ⟨k, hk, rfl⟩ := omap_some h
    refine ⟨⟨_, op_din hu, fun B σ x y F H ρ Q hr hx hy q => ?_⟩, ⟨_, op_dnotin hu, fun B σ x y F H ρ Q hr hx hy q => ?_⟩⟩
    · obtain ⟨a, kvs, rfl, g1, g2, g3⟩ := hy.dct hr.same
      refine ⟨a, valV kvs k, rfl, .inl ⟨kvs, k, g1, key_v hk hx, rfl⟩, ?_⟩
      rw [val_mem g2]; exact q
    · obtain ⟨a, kvs, rfl, g1, g2, g3⟩ := hy.dct hr.same
      refine ⟨a, valV kvs k, rfl, .inl ⟨kvs, k, g1, key_v hk hx, rfl⟩, ?_⟩
      rw [val_mem g2]; exact q
  · rename_i ks vs
    obtain ⟨k, hk, rfl⟩ := omap_some h
    refine ⟨⟨_, op_din hu, fun B σ x y F H ρ Q hr hx hy q => ?_⟩, ⟨_, op_dnotin hu, fun B σ x y F H ρ Q hr hx hy q => ?_⟩⟩
    · obtain ⟨a, kvs, rfl, g1, g2, g3⟩ := hy.dcT hr.same
      obtain ⟨b, rfl, e⟩ := keyT_v hr.same hk hx
      refine ⟨a, valV kvs k, rfl, .inr ⟨kvs, k, b, g1, rfl, e, rfl⟩, ?_⟩
      rw [val_mem g2]; exact q
    · obtain ⟨a, kvs, rfl, g1, g2, g3⟩ := hy.dcT hr.same
      obtain ⟨b, rfl, e⟩ := keyT_v hr.same hk hx
      refine ⟨a, valV kvs k, rfl, .inr ⟨kvs, k, b, g1, rfl, e, rfl⟩, ?_⟩
      rw [val_mem g2]; exact q
  · cases h
theorem is_ok {d e : D} {b : Bool} (h : isD d e = some b) : CmpOk X .Is d e b ∧ CmpOk X .IsNot d e (!b) := by
  unfold isD at h
  split at h
  · cases h
    exact ⟨⟨_, op_isBl, fun B σ x y F H ρ Q hr hx hy k => ⟨_, _, hx.bl, hy.bl, k⟩⟩, ⟨_, op_notBl, fun B σ x y F H ρ Q hr hx hy k => ⟨_, _, hx.bl, hy.bl, k⟩⟩⟩
  · cases h
theorem cmp_ok (hu : X.A.units + 65 < cLine) {op : CmpOp} {d e : D} {b : Bool} (h : cmpD op d e = some b) : CmpOk X op d e b := by
  unfold cmpD at h
  split at h
  · obtain ⟨h1, h2, h3, h4, rfl⟩ := eq_parts h
    exact ⟨_, op_eqD (by omega), fun B σ x y F H ρ Q hr hx hy k => ⟨_, _, hx.dp hr.same h1, hy.dp hr.same h3, h2, h4, k⟩⟩
  · obtain ⟨b', h', rfl⟩ := omap_some h
    obtain ⟨h1, h2, h3, h4, rfl⟩ := eq_parts h'
    exact ⟨_, op_neD (by omega), fun B σ x y F H ρ Q hr hx hy k => ⟨_, _, hx.dp hr.same h1, hy.dp hr.same h3, h2, h4, k⟩⟩
  · cases h; exact cmp_int op_lt
  · cases h; exact cmp_int op_le
  · cases h; exact cmp_int op_gt
  · cases h; exact cmp_int op_ge
  · exact (in_ok hu h).1
  · obtain ⟨b', h', rfl⟩ := omap_some h
    exact (in_ok hu h').2
  · exact (is_ok h).1
  · obtain ⟨b', h', rfl⟩ := omap_some h
    exact (is_ok h').2
  · cases h
end
section
variable {B : Bs} {X : Cx} {e a b c : Expr} {pos : Pos} {np : Nat} {cf : Nat → List Sl → CRes} {ca cb cc : C}
theorem se_cmp {op : CmpOp} (hu : X.A.units + 65 < cLine) (ha : SE B X a (evE np cf ca)) (hb : SE B X b (evE np cf cb)) (hm : behindInMarks op b = false) : SE B X (.Compare a [op] [b] pos) (evE np cf (.cmp op ca cb)) := by
  intro F H ρ σ Q hr ⟨r, ρ', hm', k⟩
  obtain ⟨x, ρ1, h1, m1⟩ := bind_ok hm'
  obtain ⟨y, ρ2, h2, m2⟩ := bind_ok m1
  obtain ⟨z, ρ3, h3, m3⟩ := bind_ok m2
  obtain ⟨ho, e0⟩ := ofO_ok h3
  subst e0
  cases m3
  obtain ⟨d1, d2, e1, e2, e3⟩ := ob2_some ho
  obtain ⟨r0, ok, run⟩ := cmp_ok (X := X) hu e3
  refine ge_of (pe_cmpR ok pe_ge pe_ge hm) (se2 ha hb hr h1 h2 fun vx vy F2 H2 P qx qy => ?_)
  exact run B σ vx vy F2 H2 _ Q P.rel (der_ct P.rel qx e1) (der_ct P.rel qy e2) (k _ F2 H2 P rfl trivial)
theorem st_cmp {op : CmpOp} (hu : X.A.units + 65 < cLine) (ha : SE B X a (evE np cf ca)) (hb : SE B X b (evE np cf cb)) (hm : behindInMarks op b = false) : ST B X (.Compare a [op] [b] pos) (evT np cf (.tVal (.cmp op ca cb))) := by
  intro F H ρ σ Q hr ⟨r, ρ', hm', k⟩
  obtain ⟨w, ρ0, h0, m0⟩ := bind_ok hm'
  obtain ⟨x, ρ1, h1, m1⟩ := bind_ok h0
  obtain ⟨y, ρ2, h2, m2⟩ := bind_ok m1
  obtain ⟨z, ρ3, h3, m3⟩ := bind_ok m2
  obtain ⟨ho, e0⟩ := ofO_ok h3
  subst e0
  cases m3
  cases m0
  obtain ⟨d1, d2, e1, e2, e3⟩ := ob2_some ho
  obtain ⟨r0, ok, run⟩ := cmp_ok (X := X) hu e3
  refine gt_of (pt_cmpR ok pe_ge pe_ge hm) (se2 ha hb hr h1 h2 fun vx vy F2 H2 P qx qy => ?_)
  exact run B σ vx vy F2 H2 _ _ P.rel (der_ct P.rel qx e1) (der_ct P.rel qy e2) ⟨_, rfl, k F2 H2 P⟩
/-- a < b < c -/
theorem chain_core {op op' : CmpOp} (hu : X.A.units + 65 < cLine) (ha : SE B X a (evE np cf ca)) (hb : SE B X b (evE np cf cb)) (hc : SE B X c (evE np cf cc)) {F H : Hp} {ρ ρ' : Rho} {σ : L2.St} {r : RV} (hr : Rel (km X) B F H ρ σ) (hm : evE np cf (.chain op op' ca cb cc) ρ = .ok r ρ')
    {G : Bool → Hp → Prop} (k : ∀ b F' H', r = .fz (.bl b) → Post (km X) B σ F H ρ F' H' ρ' → G b H') : ∃ r0 r1 : R2, OpR X (compareOp op) r0 ∧ OpR X (compareOp op') r1 ∧
      tChain r0 r1 (GE X a) (GE X b) (GE X c) σ H (fun v H' => ∃ k, v = .bl k ∧ G k H') := by
  obtain ⟨x, ρ1, h1, m1⟩ := bind_ok hm
  obtain ⟨y, ρ2, h2, m2⟩ := bind_ok m1
  obtain ⟨z, ρ3, h3, m3⟩ := bind_ok m2
  obtain ⟨ho, e0⟩ := ofO_ok h3
  subst e0
  obtain ⟨d1, d2, e1, e2, e3⟩ := ob2_some ho
  obtain ⟨r0, ok, run⟩ := cmp_ok (X := X) hu e3
  cases z with
  | false =>
    cases m3
    refine ⟨r0, fun _ _ _ _ => False, ok, fun _ _ _ _ _ _ _ _ _ _ _ _ z => z.elim, se2 ha hb hr h1 h2 fun vx vy F2 H2 P qx qy => ?_⟩
    exact run B σ vx vy F2 H2 _ _ P.rel (der_ct P.rel qx e1) (der_ct P.rel qy e2) ⟨false, rfl, ⟨_, rfl, k _ F2 H2 rfl P⟩⟩
  | true =>
    obtain ⟨w, ρ4, h4, m4⟩ := bind_ok m3
    obtain ⟨b5, ρ5, h5, m5⟩ := bind_ok m4
    obtain ⟨ho', e0'⟩ := ofO_ok h5
    subst e0'
    cases m5
    obtain ⟨d3, d4, e4, e5, e6⟩ := ob2_some ho'
    obtain ⟨r1, ok', run'⟩ := cmp_ok (X := X) hu e6
    refine ⟨r0, r1, ok, ok', se2 ha hb hr h1 h2 fun vx vy F2 H2 P qx qy => ?_⟩
    refine run B σ vx vy F2 H2 _ _ P.rel (der_ct P.rel qx e1) (der_ct P.rel qy e2) ⟨true, rfl, ?_⟩
    rw [if_pos rfl]
    refine hc F2 H2 _ σ _ P.rel ⟨w, _, h4, fun vz F3 H3 P3 qz _ => ?_⟩
    exact run' B σ vy vz F3 H3 _ _ P3.rel (der_ct P3.rel (qy.step P3) e4) (der_ct P3.rel qz e5) ⟨_, rfl, k _ F3 H3 rfl (P.trans P3)⟩
theorem se_chain {op op' : CmpOp} (hu : X.A.units + 65 < cLine) (ha : SE B X a (evE np cf ca)) (hb : SE B X b (evE np cf cb)) (hc : SE B X c (evE np cf cc))
    (hl : lastMarks [op, op'] [b, c] = false) : SE B X (.Compare a [op, op'] [b, c] pos) (evE np cf (.chain op op' ca cb cc)) := by
  intro F H ρ σ Q hr ⟨r, ρ', hm, k⟩
  obtain ⟨r0, r1, o0, o1, t⟩ := chain_core hu ha hb hc hr hm (G := fun b H' => Q (.bl b) H') fun b F' H' e P => by
    subst e
    exact k _ F' H' P rfl trivial
  refine (ge_of (pe_chain o0 o1 pe_ge pe_ge pe_ge hl) t).imp fun v H' ⟨b, e, q⟩ => ?_
  subst e
  exact q
theorem st_chain {op op' : CmpOp} (hu : X.A.units + 65 < cLine) (ha : SE B X a (evE np cf ca)) (hb : SE B X b (evE np cf cb)) (hc : SE B X c (evE np cf cc))
    (hl : lastMarks [op, op'] [b, c] = false) : ST B X (.Compare a [op, op'] [b, c] pos) (evT np cf (.tVal (.chain op op' ca cb cc))) := by
  intro F H ρ σ Q hr ⟨r, ρ', hm, k⟩
  obtain ⟨w, ρ0, h0, hm⟩ := bind_ok hm
  obtain ⟨r0, r1, o0, o1, t⟩ := chain_core hu ha hb hc hr h0 (G := fun b H' => Q b H') fun b F' H' e P => by
    subst e
    cases hm
    exact k F' H' P
  exact gt_of (pt_chain o0 o1 pe_ge pe_ge pe_ge hl) t
theorem Ct.isNon {K : KM} {F H : Hp} {d : D} {v : V} (h : Ct K F H d v) : decide (v = V.non) = d.isNon := by
  rcases h with h | ⟨p, o, rfl, _, h⟩
  · cases d with
    | non => rw [show v = V.non from h]; rfl
    | bl _ => rw [show v = V.bl _ from h]; rfl
    | int _ => rw [show v = V.int _ from h]; rfl
    | str _ => rw [show v = V.str _ from h]; rfl
    | lst _ => obtain ⟨a, _, rfl, _⟩ := h; rfl
    | tup _ => obtain ⟨a, _, rfl, _⟩ := h; rfl
    | dct _ _ => obtain ⟨a, _, _, rfl, _⟩ := h; rfl
    | dcT _ _ => obtain ⟨a, _, _, rfl, _⟩ := h; rfl
    | obj _ _ => obtain ⟨a, _, _, rfl, _⟩ := h; rfl
    | scr _ => obtain ⟨a, rfl, _⟩ := h; rfl
  · cases d with
    | non => exact h.elim
    | bl _ => rfl
    | int _ => rfl
    | str _ => rfl
    | lst _ => rfl
    | tup _ => rfl
    | dct _ _ => rfl
    | dcT _ _ => rfl
    | obj _ _ => rfl
    | scr _ => rfl
theorem isN_core (ha : SE B X a (evE np cf ca)) {F H : Hp} {ρ ρ1 ρ' : Rho} {σ : L2.St} {x : RV} {d : D} {G : Bool → Hp → Prop} (hr : Rel (km X) B F H ρ σ) (h1 : evE np cf ca ρ = .ok x ρ1) (h2 : ofO (der ρ1 x) ρ1 = .ok d ρ')
    (k : ∀ F' H', Post (km X) B σ F H ρ F' H' ρ' → G d.isNon H') : GE X a σ H (fun v H' => G (decide (v = V.non)) H') := by
  obtain ⟨ho, e0⟩ := ofO_ok h2
  subst e0
  refine ha F H ρ σ _ hr ⟨x, _, h1, fun v F1 H1 P q f => ?_⟩
  rw [(der_ct P.rel q ho).isNon]
  exact k F1 H1 P
theorem se_isN {j pos'} (ha : SE B X a (evE np cf ca)) : SE B X (.Compare a [.Is] [.Constant .none j pos'] pos) (evE np cf (.isN ca)) := by
  intro F H ρ σ Q hr ⟨r, ρ', hm, k⟩
  obtain ⟨x, ρ1, h1, m1⟩ := bind_ok hm
  obtain ⟨d, ρ2, h2, m2⟩ := bind_ok m1
  cases m2
  exact ge_of (pe_cmp (pc_isN pe_ge)) (isN_core ha hr h1 h2 (G := fun b H' => Q (.bl b) H') fun F' H' P => k _ F' H' P rfl trivial)
theorem se_isNotN {j pos'} (ha : SE B X a (evE np cf ca)) : SE B X (.Compare a [.IsNot] [.Constant .none j pos'] pos) (evE np cf (.isNotN ca)) := by
  intro F H ρ σ Q hr ⟨r, ρ', hm, k⟩
  obtain ⟨x, ρ1, h1, m1⟩ := bind_ok hm
  obtain ⟨d, ρ2, h2, m2⟩ := bind_ok m1
  cases m2
  exact ge_of (pe_cmp (pc_notN pe_ge)) (isN_core ha hr h1 h2 (G := fun b H' => Q (.bl (!b)) H') fun F' H' P => k _ F' H' P rfl trivial)
theorem st_isN {j pos'} (ha : SE B X a (evE np cf ca)) : ST B X (.Compare a [.Is] [.Constant .none j pos'] pos) (evT np cf (.tVal (.isN ca))) := by
  intro F H ρ σ Q hr ⟨r, ρ', hm, k⟩
  obtain ⟨w, ρ0, h0, m0⟩ := bind_ok hm
  obtain ⟨x, ρ1, h1, m1⟩ := bind_ok h0
  obtain ⟨d, ρ2, h2, m2⟩ := bind_ok m1
  cases m2
  cases m0
  exact gt_of (pt_cmp (pc_isN pe_ge)) (isN_core ha hr h1 h2 (G := fun b H' => ∃ c, V.bl b = .bl c ∧ Q c H') fun F' H' P => ⟨_, rfl, k F' H' P⟩)
theorem st_isNotN {j pos'} (ha : SE B X a (evE np cf ca)) : ST B X (.Compare a [.IsNot] [.Constant .none j pos'] pos) (evT np cf (.tVal (.isNotN ca))) := by
  intro F H ρ σ Q hr ⟨r, ρ', hm, k⟩
  obtain ⟨w, ρ0, h0, m0⟩ := bind_ok hm
  obtain ⟨x, ρ1, h1, m1⟩ := bind_ok h0
  obtain ⟨d, ρ2, h2, m2⟩ := bind_ok m1
  cases m2
  cases m0
  exact gt_of (pt_cmp (pc_notN pe_ge)) (isN_core ha hr h1 h2 (G := fun b H' => ∃ c, V.bl (!b) = .bl c ∧ Q c H') fun F' H' P => ⟨_, rfl, k F' H' P⟩)
/-! ### not, and, or, tests -/
theorem se_not (ha : SE B X a (evE np cf ca)) : SE B X (.UnaryOp .Not a pos) (evE np cf (.notV ca)) := by
  intro F H ρ σ Q hr ⟨r, ρ', hm, k⟩
  obtain ⟨x, ρ1, h1, m1⟩ := bind_ok hm
  split at m1
  · rename_i b
    cases m1
    refine ge_of (pe_not pe_ge) (ha F H ρ σ _ hr ⟨_, _, h1, fun v F1 H1 P q f => ?_⟩)
    exact ⟨b, q, k _ F1 H1 P rfl trivial⟩
  · cases m1
theorem se_neg (ha : SE B X a (evE np cf ca)) : SE B X (.UnaryOp .USub a pos) (evE np cf (.neg ca)) := by
  intro F H ρ σ Q hr ⟨r, ρ', hm, k⟩
  obtain ⟨x, ρ1, h1, m1⟩ := bind_ok hm
  split at m1
  · rename_i i hi
    cases m1
    refine ge_of (pe_un un_neg pe_ge) (ha F H ρ σ _ hr ⟨_, _, h1, fun v F1 H1 P q f => ?_⟩)
    exact ⟨i, (der_ct P.rel q hi).int, k _ F1 H1 P rfl trivial⟩
  · cases m1
variable {rest : List Expr}
theorem se_and (ha : SE B X a (evE np cf ca)) (hb : SE B X (.BoolOp .And (b :: rest) pos) (evE np cf cb)) : SE B X (.BoolOp .And (a :: b :: rest) pos) (evE np cf (.andV ca cb)) := by
  intro F H ρ σ Q hr ⟨r, ρ', hm, k⟩
  obtain ⟨x, ρ1, h1, m1⟩ := bind_ok hm
  refine ge_of (pe_and pe_ge pe_ge) (ha F H ρ σ _ hr ⟨_, _, h1, fun v F1 H1 P q f => ?_⟩)
  split at m1
  · refine ⟨true, q, ?_⟩
    rw [if_pos rfl]
    exact hb F1 H1 ρ1 σ _ P.rel ⟨_, _, m1, fun v' F2 H2 P2 q2 f2 => k v' F2 H2 (P.trans P2) q2 (f2.back P)⟩
  · cases m1
    refine ⟨false, q, ?_⟩
    rw [if_neg Bool.false_ne_true]
    exact k _ F1 H1 P rfl trivial
  · cases m1
theorem se_or (ha : SE B X a (evE np cf ca)) (hb : SE B X (.BoolOp .Or (b :: rest) pos) (evE np cf cb)) : SE B X (.BoolOp .Or (a :: b :: rest) pos) (evE np cf (.orV ca cb)) := by
  intro F H ρ σ Q hr ⟨r, ρ', hm, k⟩
  obtain ⟨x, ρ1, h1, m1⟩ := bind_ok hm
  refine ge_of (pe_or pe_ge pe_ge) (ha F H ρ σ _ hr ⟨_, _, h1, fun v F1 H1 P q f => ?_⟩)
  split at m1
  · refine ⟨false, q, ?_⟩
    rw [if_neg Bool.false_ne_true]
    exact hb F1 H1 ρ1 σ _ P.rel ⟨_, _, m1, fun v' F2 H2 P2 q2 f2 => k v' F2 H2 (P.trans P2) q2 (f2.back P)⟩
  · cases m1
    refine ⟨true, q, ?_⟩
    rw [if_pos rfl]
    exact k _ F1 H1 P rfl trivial
  · cases m1
theorem se_one {op : BoolOp} (ha : SE B X a (evE np cf ca)) : SE B X (.BoolOp op [a] pos) (evE np cf ca) := by
  intro F H ρ σ Q hr h
  exact ge_of (pe_one pe_ge) (ha F H ρ σ Q hr h)
theorem se_ite (hc : ST B X c (evT np cf cc)) (ha : SE B X a (evE np cf ca)) (hb : SE B X b (evE np cf cb)) : SE B X (.IfExp c a b pos) (evE np cf (.ite cc ca cb)) := by
  intro F H ρ σ Q hr ⟨r, ρ', hm, k⟩
  obtain ⟨x, ρ1, h1, m1⟩ := bind_ok hm
  refine ge_of (pe_ifExp pt_gt pe_ge pe_ge) (hc F H ρ σ _ hr ⟨_, _, h1, fun F1 H1 P => ?_⟩)
  cases x with
  | true =>
    rw [if_pos rfl]
    exact ha F1 H1 ρ1 σ _ P.rel ⟨_, _, m1, fun v' F2 H2 P2 q2 f2 => k v' F2 H2 (P.trans P2) q2 (f2.back P)⟩
  | false =>
    rw [if_neg Bool.false_ne_true]
    exact hb F1 H1 ρ1 σ _ P.rel ⟨_, _, m1, fun v' F2 H2 P2 q2 f2 => k v' F2 H2 (P.trans P2) q2 (f2.back P)⟩
theorem st_val (ha : SE B X a (evE np cf ca)) (he : ∀ whole, isTrue a X.env whole = (do let v ← whole; standAt a.pos; holding [v] (truthy v))) : ST B X a (evT np cf (.tVal ca)) := by
  intro F H ρ σ Q hr ⟨r, ρ', hm, k⟩
  obtain ⟨x, ρ1, h1, m1⟩ := bind_ok hm
  split at m1
  · cases m1
    refine gt_of (pt_val pe_ge he) (ha F H ρ σ _ hr ⟨_, _, h1, fun v F1 H1 P q f => ?_⟩)
    exact ⟨_, q, k F1 H1 P⟩
  · cases m1
theorem st_not (ha : ST B X a (evT np cf ca)) : ST B X (.UnaryOp .Not a pos) (evT np cf (.tNot ca)) := by
  intro F H ρ σ Q hr ⟨r, ρ', hm, k⟩
  obtain ⟨x, ρ1, h1, m1⟩ := bind_ok hm
  cases m1
  exact gt_of (pt_not pt_gt) (ha F H ρ σ _ hr ⟨_, _, h1, fun F1 H1 P => k F1 H1 P⟩)
theorem sw_and1 (ha : ST B X a (evT np cf ca)) : SW B X (.BoolOp .And [a] pos) (evT np cf ca) := by
  intro F H ρ σ Q hr h
  exact gw_of (pw_and1 pt_gt) (ha F H ρ σ Q hr h)
theorem sw_or1 (ha : ST B X a (evT np cf ca)) : SW B X (.BoolOp .Or [a] pos) (evT np cf ca) := by
  intro F H ρ σ Q hr h
  exact gw_of (pw_or1 pt_gt) (ha F H ρ σ Q hr h)
theorem sw_and (ha : ST B X a (evT np cf ca)) (hb : SW B X (.BoolOp .And (b :: rest) pos) (evT np cf cb)) : SW B X (.BoolOp .And (a :: b :: rest) pos) (evT np cf (.tAnd ca cb)) := by
  intro F H ρ σ Q hr ⟨r, ρ', hm, k⟩
  obtain ⟨x, ρ1, h1, m1⟩ := bind_ok hm
  refine gw_of (pw_and pt_gt pw_gw) (ha F H ρ σ _ hr ⟨_, _, h1, fun F1 H1 P => ?_⟩)
  cases x with
  | true =>
    rw [if_pos rfl]
    exact hb F1 H1 ρ1 σ _ P.rel ⟨_, _, m1, fun F2 H2 P2 => k F2 H2 (P.trans P2)⟩
  | false =>
    cases m1
    rw [if_neg Bool.false_ne_true]
    exact k F1 H1 P
theorem sw_or (ha : ST B X a (evT np cf ca)) (hb : SW B X (.BoolOp .Or (b :: rest) pos) (evT np cf cb)) : SW B X (.BoolOp .Or (a :: b :: rest) pos) (evT np cf (.tOr ca cb)) := by
  intro F H ρ σ Q hr ⟨r, ρ', hm, k⟩
  obtain ⟨x, ρ1, h1, m1⟩ := bind_ok hm
  refine gw_of (pw_or pt_gt pw_gw) (ha F H ρ σ _ hr ⟨_, _, h1, fun F1 H1 P => ?_⟩)
  cases x with
  | true =>
    cases m1
    rw [if_pos rfl]
    exact k F1 H1 P
  | false =>
    rw [if_neg Bool.false_ne_true]
    exact hb F1 H1 ρ1 σ _ P.rel ⟨_, _, m1, fun F2 H2 P2 => k F2 H2 (P.trans P2)⟩
theorem SW.st {m : Rho → R Bool} (h : SW B X e m) : ST B X e m := fun F H ρ σ Q hr q => ⟨fun pins s I => (h F H ρ σ Q hr q).run _ pins s I⟩
/-! ### items, displays -/
variable {es : List Expr}
theorem sl_nil : SL B X [] (evEs np cf .nil) := by
  intro F H ρ σ Q hr ⟨l, ρ', hm, k⟩
  cases hm
  exact ga_of pa_nil (k [] F H (Post.refl hr) rfl)
theorem sl_cons (ha : SE B X a (evE np cf ca)) (hb : SL B X es (evEs np cf cb)) (hs : starEach (a :: es) X.env = (false, eval a X.env) :: starEach es X.env) : SL B X (a :: es) (evEs np cf (.cons ca cb)) := by
  intro F H ρ σ Q hr ⟨l, ρ', hm, k⟩
  obtain ⟨x, ρ1, h1, m1⟩ := bind_ok hm
  obtain ⟨d, ρ2, h2, m2⟩ := bind_ok m1
  obtain ⟨l', ρ3, h3, m3⟩ := bind_ok m2
  cases m3
  refine ga_of (pa_cons pe_ge pa_ga hs) (ha.sd F H ρ σ _ hr ⟨d, ρ2, by show (evE np cf ca ρ).bind _ = _; rw [h1]; exact h2, fun v F2 H1 P2 q2 => ?_⟩)
  refine hb F2 H1 ρ2 σ _ P2.rel ⟨_, _, h3, fun vs F3 H3 P3 q3 => ?_⟩
  exact k _ F3 H3 (P2.trans P3) ⟨v, vs, rfl, Rp.mono P3.same d v q2, q3⟩
theorem se_tup {x1} (h : SL B X es (evEs np cf ca)) : SE B X (.Tuple es x1 pos) (evE np cf (.tup ca)) := by
  intro F H ρ σ Q hr ⟨r, ρ', hm, k⟩
  obtain ⟨l, ρ1, h1, m1⟩ := bind_ok hm
  split at m1
  · rename_i hl
    cases m1
    refine ge_of (pe_tup pa_ga) (h F H ρ σ _ hr ⟨_, _, h1, fun vs F1 H1 P q => ?_⟩)
    refine ⟨by rw [q.length]; exact maxLen_le hl, fun p hp => ?_⟩
    obtain ⟨P2, q2⟩ := Post.newTup P.rel hp q
    exact k _ _ _ (P.trans P2) q2 trivial
  · cases m1
theorem se_lst (h : SL B X es (evEs np cf ca)) : SE B X (.List es pos) (evE np cf (.lst ca)) := by
  intro F H ρ σ Q hr ⟨r, ρ', hm, k⟩
  obtain ⟨l, ρ1, h1, m1⟩ := bind_ok hm
  split at m1
  · rename_i hl
    cases m1
    refine ge_of (pe_lst pa_ga) (h F H ρ σ _ hr ⟨_, _, h1, fun vs F1 H1 P q => ?_⟩)
    refine ⟨by rw [q.length]; exact maxLen_le hl, fun p hp => ?_⟩
    exact k _ F1 _ (P.trans (Post.new P.rel hp)) (RvOk.newOw P.rel hp ⟨_, rfl, q⟩) (Fresh.back P (r := .ow (.lst l)) fun p' e => by cases e; exact hp)
  · cases m1
theorem se_dict0 : SE B X (.Dict [] [] pos) (evE np cf .dict0) := by
  intro F H ρ σ Q hr ⟨r, ρ', hm, k⟩
  cases hm
  refine ge_of pe_dnewK fun p hp => ?_
  exact k _ F _ (Post.new hr hp) (RvOk.newOw hr hp ⟨[], rfl, rfl, rfl⟩) fun p' e => by cases e; exact hp
/-! ### items of lists and tuples, slices -/
theorem sub_ok {d1 d2 d : D} (hd1 : ∀ ks vs, d1 ≠ .dct ks vs) (hd2 : ∀ ks vs, d1 ≠ .dcT ks vs) (h : subD d1 d2 = some d) : ∃ r0 : R2, IxR X r0 ∧ ∀ (σ : L2.St) (x y : V) (F H : Hp) (ρ : Rho) (Q : VK), Rel (km X) B F H ρ σ → Ct (km X) F H d1 x → Ct (km X) F H d2 y → (∀ v, Rp (km X) F d v → Q v H) → r0 x y H Q := by
  unfold subD at h
  split at h
  · rename_i l i
    obtain ⟨j, h1, h2⟩ := obind_some h
    refine ⟨_, ix_list, fun σ x y F H ρ Q hr hx hy k => ?_⟩
    obtain ⟨p, vs, rfl, g1, g2⟩ := hx.lst hr.same
    obtain ⟨v, e, q⟩ := g2.get h2
    refine ⟨p, vs, i, v, rfl, hy.int, SqL.of g1, ?_, k v q⟩
    unfold atI
    rw [g2.length, show ixN l.length i = some j from h1]
    exact e
  · rename_i l i
    obtain ⟨j, h1, h2⟩ := obind_some h
    refine ⟨_, ix_tup, fun σ x y F H ρ Q hr hx hy k => ?_⟩
    obtain ⟨p, vs, rfl, g1, g2⟩ := hx.tup hr.same
    obtain ⟨v, e, q⟩ := g2.get h2
    refine ⟨p, vs, i, v, rfl, hy.int, SqT.of g1, ?_, k v q⟩
    unfold atI
    rw [g2.length, show ixN l.length i = some j from h1]
    exact e
  · rename_i l i
    obtain ⟨j, h1, h2⟩ := obind_some h
    obtain ⟨n, h3, h4⟩ := omap_some h2
    subst h4
    refine ⟨_, ix_list, fun σ x y F H ρ Q hr hx hy k => ?_⟩
    obtain ⟨p, rfl, g1⟩ := hx.scr hr.same
    refine ⟨p, _, i, .int n, rfl, hy.int, g1, ?_, k _ rfl⟩
    unfold atI
    rw [List.length_map, show ixN l.length i = some j from h1]
    show (l.map V.int)[j]? = _
    rw [List.getElem?_map, h3]
    rfl
  · exact absurd rfl (hd1 _ _)
  · exact absurd rfl (hd2 _ _)
  · cases h
theorem se_sub (hu : X.A.units + 65 < cLine) (ha : SE B X a (evE np cf ca)) (hb : SE B X b (evE np cf cb)) (hs : PlainIx b) : SE B X (.Subscript a b pos) (evE np cf (.sub ca cb)) := by
  intro F H ρ σ Q hr ⟨r, ρ', hm, k⟩
  obtain ⟨x, ρ1, h1, m1⟩ := bind_ok hm
  obtain ⟨y, ρ2, h2, m2⟩ := bind_ok m1
  obtain ⟨d, ρ3, h3, m3⟩ := bind_ok m2
  obtain ⟨ho, e0⟩ := ofO_ok h3
  subst e0
  cases m3
  obtain ⟨d1, d2, e1, e2, e3⟩ := ob2_some ho
  by_cases c1 : ∃ ks vs, d1 = .dct ks vs
  · obtain ⟨ks, vs, rfl⟩ := c1
    obtain ⟨k0, hk, hg⟩ := obind_some (show (keyD d2).bind (getK ks vs) = some d from e3)
    refine ge_of (pe_dget (by omega) pe_ge pe_ge hs) (se2 ha hb hr h1 h2 fun vx vy F2 H2 P qx qy => ?_)
    obtain ⟨a0, kvs, rfl, g1, g2, g3⟩ := (der_ct P.rel qx e1).dct P.rel.same
    obtain ⟨v, hv, rv⟩ := getK_some g2 g3 hg
    exact ⟨a0, v, rfl, .inl ⟨kvs, k0, g1, key_v hk (der_ct P.rel qy e2), hv.symm⟩, k v F2 H2 P rv trivial⟩
  by_cases c2 : ∃ ks vs, d1 = .dcT ks vs
  · obtain ⟨ks, vs, rfl⟩ := c2
    obtain ⟨k0, hk, hg⟩ := obind_some (show (keyT d2).bind (getK ks vs) = some d from e3)
    refine ge_of (pe_dget (by omega) pe_ge pe_ge hs) (se2 ha hb hr h1 h2 fun vx vy F2 H2 P qx qy => ?_)
    obtain ⟨a0, kvs, rfl, g1, g2, g3⟩ := (der_ct P.rel qx e1).dcT P.rel.same
    obtain ⟨v, hv, rv⟩ := getK_some g2 g3 hg
    obtain ⟨b0, rfl, eb⟩ := keyT_v P.rel.same hk (der_ct P.rel qy e2)
    exact ⟨a0, v, rfl, .inr ⟨kvs, k0, b0, g1, rfl, eb, hv.symm⟩, k v F2 H2 P rv trivial⟩
  obtain ⟨r0, ok, run⟩ := sub_ok (X := X) (B := B) (fun ks vs z => c1 ⟨ks, vs, z⟩) (fun ks vs z => c2 ⟨ks, vs, z⟩) e3
  refine ge_of (pe_ix ok pe_ge pe_ge hs) (se2 ha hb hr h1 h2 fun vx vy F2 H2 P qx qy => ?_)
  exact run σ vx vy F2 H2 _ Q P.rel (der_ct P.rel qx e1) (der_ct P.rel qy e2) fun v q => k v F2 H2 P q trivial
end
end PV

/-! PvS3: built-ins, what is walked, targets. -/
namespace PV
open PySem L2
/-! ### built-in functions of one argument -/
def CallOk (X : Cx) (f : Value) (d : D) (r : RV) : Prop := ∃ rc : List V → Hp → VK → Prop, CallR X f rc ∧ ∀ (B : Bs) (σ : L2.St) (x : V) (F H : Hp) (ρ : Rho) (Q : VK), Rel (km X) B F H ρ σ → Ct (km X) F H d x →
  (∀ v F' H', Post (km X) B σ F H ρ F' H' ρ → RvOk (km X) F' H' ρ σ r v → Fresh H r v → Q v H') → rc [x] H Q
def biV : Bi → Value
  | .abs => .builtin "abs"
  | .int => .type "int"
  | .len => .builtin "len"
  | .all => .builtin "all"
  | .list => .type "list"
  | .tuple => .type "tuple"
  | .sorted => .builtin "sorted"
  | .any => .builtin "any"
section
variable {X : Cx}
theorem call_listS (hc : X.calm = true) : CallR X (.type "list") (fun xs H Q => ∃ x : Str, xs = [.str x] ∧ x.cps.size ≤ sizeLine ∧ ∀ p, H p = none → Q (.ref p) (upd H p (.lst (x.cps.toList.map fun c => .str ⟨#[c]⟩)))) := by
  intro pins s σ H xs us Q I r h
  obtain ⟨x, rfl, hz, q⟩ := h
  obtain ⟨u, rfl, rx⟩ := vals1 r
  obtain ⟨t, rfl⟩ := rx
  refine call_list_str (I.ok.hd hc) x t (fun h' tk acc c' hk hD hacc => ?_) hz
  have hv : Vals (x.cps.toList.map fun c => V.str ⟨#[c]⟩) acc.toList := by
    refine vals_of_idx _ _ (by rw [Array.length_toList, List.length_map, Array.length_toList]; exact hacc.1) fun j u e => ?_
    obtain ⟨c, u', hcx, rfl⟩ := hacc.2 j u (by rw [← Array.getElem?_toList]; exact e)
    refine ⟨.str ⟨#[c]⟩, ?_, u', rfl⟩
    rw [List.getElem?_map, Array.getElem?_toList, hcx]
    rfl
  refine ⟨.ref s.heap.objs.size, upd H s.heap.objs.size (.lst (x.cps.toList.map fun c => V.str ⟨#[c]⟩)), I.laid (t' := tk) hk (Nat.le_refl _)
    (show ObjOk X.prog X.w _ _ _ (.lst _) from ⟨by rw [List.length_map, Array.length_toList]; exact hz, acc.toList, c', hv, by rw [Array.toArray_toList]; exact hD⟩), rfl, q _ (I.hok.fresh (Nat.le_refl _))⟩
theorem rpl_strs {K : KM} {F : Hp} : ∀ l : List Nat, RpL K F (l.map fun c => D.str ⟨#[c]⟩) (l.map fun c => V.str ⟨#[c]⟩)
  | [] => rfl
  | c :: l => ⟨_, _, rfl, rfl, rpl_strs l⟩
theorem all_bools {K : KM} {F : Hp} : ∀ {l : List D} {vs : List V} {b : Bool}, allB l = some b → RpL K F l vs → ∃ bs : List Bool, vs = bs.map V.bl ∧ b = bs.all id
  | [], vs, b, h, q => ⟨[], q, (Option.some.inj h).symm⟩
  | .bl c :: l, _, b, h, q => by
    obtain ⟨v, r, rfl, h1, h2⟩ := q
    obtain ⟨b', h3, rfl⟩ := omap_some (show (allB l).map (c && ·) = some b from h)
    obtain ⟨bs, rfl, rfl⟩ := all_bools h3 h2
    rw [show v = V.bl c from h1]
    exact ⟨c :: bs, rfl, rfl⟩
  | .non :: l, _, b, h, q => by cases h
  | .int _ :: l, _, b, h, q => by cases h
  | .str _ :: l, _, b, h, q => by cases h
  | .lst _ :: l, _, b, h, q => by cases h
  | .tup _ :: l, _, b, h, q => by cases h
  | .dct _ _ :: l, _, b, h, q => by cases h
  | .dcT _ _ :: l, _, b, h, q => by cases h
  | .obj _ _ :: l, _, b, h, q => by cases h
  | .scr _ :: l, _, b, h, q => by cases h
theorem any_bools {K : KM} {F : Hp} : ∀ {l : List D} {vs : List V} {b : Bool}, anyB l = some b → RpL K F l vs → ∃ bs : List Bool, vs = bs.map V.bl ∧ b = bs.any id
  | [], vs, b, h, q => ⟨[], q, (Option.some.inj h).symm⟩
  | d :: l, _, b, h, q => by
    obtain ⟨v, r, rfl, h1, h2⟩ := q
    cases d with
    | bl c =>
      obtain ⟨b', h3, rfl⟩ := omap_some (show (anyB l).map (c || ·) = some b from h)
      obtain ⟨bs, rfl, rfl⟩ := any_bools h3 h2
      rw [show v = V.bl c from h1]
      exact ⟨c :: bs, rfl, rfl⟩
    | _ => cases h
theorem strs_vs {K : KM} {F : Hp} : ∀ {l : List D} {vs : List V} {ss : List Str}, strsD l = some ss → RpL K F l vs → vs = ss.map V.str
  | [], vs, ss, h, q => by cases h; exact q
  | d :: l, _, ss, h, q => by
    obtain ⟨v, r, rfl, h1, h2⟩ := q
    cases d with
    | str c =>
      obtain ⟨b', h3, rfl⟩ := omap_some (show (strsD l).map (c :: ·) = some ss from h)
      rw [show v = V.str c from h1, strs_vs h3 h2]
      rfl
    | _ => cases h
theorem rpl_str {K : KM} {F : Hp} : ∀ l : List Str, RpL K F (l.map D.str) (l.map V.str)
  | [] => rfl
  | c :: l => ⟨_, _, rfl, rfl, rpl_str l⟩
theorem bi_ok (hc : X.calm = true) {b : Bi} {d : D} {r : RV} (h : biD b d = some r) : CallOk X (biV b) d r := by
  unfold biD at h
  split at h
  · cases h
    exact ⟨_, call_abs, fun B σ x F H ρ Q hr hx k => ⟨_, by rw [hx.int], k _ F H (Post.refl hr) rfl trivial⟩⟩
  · cases h
    exact ⟨_, call_int1, fun B σ x F H ρ Q hr hx k => .inl ⟨_, by rw [hx.int], k _ F H (Post.refl hr) rfl trivial⟩⟩
  · cases h
    exact ⟨_, call_int1, fun B σ x F H ρ Q hr hx k => .inr ⟨_, by rw [hx.bl], k _ F H (Post.refl hr) rfl trivial⟩⟩
  · cases h
    refine ⟨_, call_len, fun B σ x F H ρ Q hr hx k => ?_⟩
    obtain ⟨a, vs, rfl, h1, h2⟩ := hx.lst hr.same
    exact ⟨_, _, rfl, .inl ⟨vs, SqL.of h1, h2.length.symm⟩, k _ F H (Post.refl hr) rfl trivial⟩
  · cases h
    refine ⟨_, call_len, fun B σ x F H ρ Q hr hx k => ?_⟩
    obtain ⟨a, vs, rfl, h1, h2⟩ := hx.tup hr.same
    exact ⟨_, _, rfl, .inr ⟨vs, SqT.of h1, h2.length.symm⟩, k _ F H (Post.refl hr) rfl trivial⟩
  · cases h
    refine ⟨_, call_len, fun B σ x F H ρ Q hr hx k => ?_⟩
    obtain ⟨a, rfl, h1⟩ := hx.scr hr.same
    exact ⟨_, _, rfl, .inl ⟨_, h1, (List.length_map _).symm⟩, k _ F H (Post.refl hr) rfl trivial⟩
  · split at h
    · rename_i s hs
      cases h
      refine ⟨_, call_len, fun B σ x F H ρ Q hr hx k => ?_⟩
      exact ⟨.str s, s.length, by rw [hx.str], ⟨maxLen_le hs, rfl⟩, k _ F H (Post.refl hr) rfl trivial⟩
    · cases h
  · obtain ⟨b', h1, rfl⟩ := omap_some h
    refine ⟨_, cr_all hc, fun B σ x F H ρ Q hr hx k => ?_⟩
    obtain ⟨a, vs, rfl, g1, g2⟩ := hx.lst hr.same
    obtain ⟨bs, rfl, rfl⟩ := all_bools h1 g2
    exact ⟨a, bs, rfl, SqL.of g1, k _ F H (Post.refl hr) rfl trivial⟩
  · cases h
    refine ⟨_, call_list_of, fun B σ x F H ρ Q hr hx k => ?_⟩
    obtain ⟨a, vs, rfl, g1, g2⟩ := hx.lst hr.same
    refine ⟨a, vs, rfl, .inl (SqL.of g1), fun p hp => ?_⟩
    exact k _ F _ (Post.new hr hp) (RvOk.newOw hr hp ⟨_, rfl, g2⟩) fun p' e => by cases e; exact hp
  · cases h
    refine ⟨_, call_list_of, fun B σ x F H ρ Q hr hx k => ?_⟩
    obtain ⟨a, vs, rfl, g1, g2⟩ := hx.tup hr.same
    refine ⟨a, vs, rfl, .inr (SqT.of g1), fun p hp => ?_⟩
    exact k _ F _ (Post.new hr hp) (RvOk.newOw hr hp ⟨_, rfl, g2⟩) fun p' e => by cases e; exact hp
  · split at h
    · rename_i s hs
      cases h
      refine ⟨_, call_listS hc, fun B σ x F H ρ Q hr hx k => ?_⟩
      refine ⟨s, by rw [hx.str], maxLen_le hs, fun p hp => ?_⟩
      exact k _ F _ (Post.new hr hp) (RvOk.newOw hr hp ⟨_, rfl, rpl_strs _⟩) fun p' e => by cases e; exact hp
    · cases h
  · cases h
    refine ⟨_, call_tuple_of, fun B σ x F H ρ Q hr hx k => ?_⟩
    obtain ⟨a, vs, rfl, g1, g2⟩ := hx.lst hr.same
    refine ⟨a, vs, rfl, .inl ⟨SqL.of g1, fun p hp => ?_⟩⟩
    obtain ⟨P, q⟩ := Post.newTup hr hp g2
    exact k _ _ _ P q trivial
  · rename_i l0
    cases h
    refine ⟨_, call_tuple_of, fun B σ x F H ρ Q hr hx k => ?_⟩
    have g0 : Rp (km X) F (.tup l0) x := by
      rcases hx with hx | ⟨_, _, _, _, hx⟩
      · exact hx
      · exact hx.elim
    obtain ⟨a, vs, rfl, g1, g2⟩ := hx.tup hr.same
    exact ⟨a, vs, rfl, .inr ⟨SqT.of g1, k _ F H (Post.refl hr) g0 trivial⟩⟩
  · obtain ⟨ss, h1, h2⟩ := obind_some h
    split at h2
    · rename_i h64
      cases h2
      refine ⟨_, call_sortS, fun B σ x F H ρ Q hr hx k => ?_⟩
      obtain ⟨a, vs, rfl, g1, g2⟩ := hx.lst hr.same
      rw [strs_vs h1 g2] at g1
      refine ⟨a, ss, rfl, .inl (SqL.of g1), h64, fun ys p pm so hp => ?_⟩
      rw [sortS_eq pm so]
      exact k _ F _ (Post.new hr hp) (RvOk.newOw hr hp ⟨_, rfl, rpl_str _⟩) fun p' e => by cases e; exact hp
    · cases h2
  · obtain ⟨ss, h1, h2⟩ := obind_some h
    split at h2
    · rename_i h64
      cases h2
      refine ⟨_, call_sortS, fun B σ x F H ρ Q hr hx k => ?_⟩
      obtain ⟨a, vs, rfl, g1, g2⟩ := hx.tup hr.same
      rw [strs_vs h1 g2] at g1
      refine ⟨a, ss, rfl, .inr (SqT.of g1), h64, fun ys p pm so hp => ?_⟩
      rw [sortS_eq pm so]
      exact k _ F _ (Post.new hr hp) (RvOk.newOw hr hp ⟨_, rfl, rpl_str _⟩) fun p' e => by cases e; exact hp
    · cases h2
  · obtain ⟨b', h1, rfl⟩ := omap_some h
    refine ⟨_, cr_any hc, fun B σ x F H ρ Q hr hx k => ?_⟩
    obtain ⟨a, vs, rfl, g1, g2⟩ := hx.lst hr.same
    obtain ⟨bs, rfl, rfl⟩ := any_bools h1 g2
    exact ⟨a, bs, rfl, SqL.of g1, k _ F H (Post.refl hr) rfl trivial⟩
  · cases h
end
/-- isinstance -/
def tyV : Ty → String
  | .int => "int"
  | .bool => "bool"
  | .str => "str"
  | .tuple => "tuple"
  | .list => "list"
theorem isi_ok {X : Cx} {t : Ty} {d : D} {b : Bool} (h : isiD t d = some b) : ∀ (B : Bs) (σ : L2.St) (x : V) (F H : Hp) (ρ : Rho) (Q : VK), Rel (km X) B F H ρ σ → Ct (km X) F H d x → Q (.bl b) H → rIsi X.K [x, .ty (tyV t)] H Q := by
  intro B σ x F H ρ Q hr hx q
  have go : ∀ (n : String), TyX X.K H x (.type n) → kitB n (tyV t) = some b → rIsi X.K [x, .ty (tyV t)] H Q := fun n ty e => ⟨x, .ty (tyV t), .type n, .type (tyV t), b, rfl, .ty _, ty, kit_ty e, q⟩
  cases d with
  | non =>
    rw [hx.non] at go ⊢
    refine go "NoneType" (.base .non) ?_
    cases t <;> (cases h; decide +kernel)
  | bl c =>
    rw [hx.bl] at go ⊢
    refine go "bool" (.base (.bl c)) ?_
    cases t <;> (cases h; decide +kernel)
  | int c =>
    rw [hx.int] at go ⊢
    refine go "int" (.base (.int c)) ?_
    cases t <;> (cases h; decide +kernel)
  | str c =>
    rw [hx.str] at go ⊢
    refine go "str" (.base (.str c)) ?_
    cases t <;> (cases h; decide +kernel)
  | lst l =>
    obtain ⟨a, vs, rfl, g1, g2⟩ := hx.lst hr.same
    refine go "list" (.base (.lst g1)) ?_
    cases t <;> (cases h; decide +kernel)
  | tup l =>
    obtain ⟨a, vs, rfl, g1, g2⟩ := hx.tup hr.same
    refine go "tuple" (.base (.tup g1)) ?_
    cases t <;> (cases h; decide +kernel)
  | dct ks l =>
    obtain ⟨a, kvs, rfl, g, _⟩ := hx.dct hr.same
    have ty : TyX X.K H (.ref a) (.type "dict") := by
      rcases g with g | ⟨od, g⟩
      · exact .base (.dK g)
      · exact .fDict g
    refine go "dict" ty ?_
    cases t <;> (cases h; decide +kernel)
  | dcT ks l => cases t <;> cases h
  | obj _ _ => cases t <;> cases h
  | scr _ => cases t <;> cases h
section
variable {B : Bs} {X : Cx} {e a b c : Expr} {pos p : Pos} {np : Nat} {cf : Nat → List Sl → CRes} {ca cb cc : C} {x : Str}
/-- one argument -/
theorem ga_one {G : List V → Hp → Prop} {σ : L2.St} {H : Hp} (hs : starEach [a] X.env = (false, eval a X.env) :: starEach [] X.env) (h : GE X a σ H fun v H' => G [v] H') : GA X [a] σ H G := ga_of (pa_cons pe_ge pa_nil hs) h
theorem ga_two {G : List V → Hp → Prop} {σ : L2.St} {H : Hp} (hs : starEach [a, b] X.env = (false, eval a X.env) :: starEach [b] X.env) (hs' : starEach [b] X.env = (false, eval b X.env) :: starEach [] X.env)
    (h : GE X a σ H fun v H' => GE X b σ H' fun w H2 => G [v, w] H2) : GA X [a, b] σ H G := ga_of (pa_cons pe_ge (pa_cons pe_ge pa_nil hs') hs) h
theorem se_bi {bi : Bi} (hc : X.calm = true) (hg : Gl X x) (hm : X.mg x = none) (hv : bootBuiltins x = some (biV bi)) (hn : x ≠ "__name__") (hdb : (x == ("__debug__" : Str)) = false)
    (hs : starEach [a] X.env = (false, eval a X.env) :: starEach [] X.env) (ha : SE B X a (evE np cf ca)) : SE B X (.Call (.Name x p) [a] [] pos) (evE np cf (.bi bi ca)) := by
  intro F H ρ σ Q hr ⟨r, ρ', hm', k⟩
  obtain ⟨y, ρ1, h1, m1⟩ := bind_ok hm'
  obtain ⟨ho, e0⟩ := ofO_ok m1
  subst e0
  obtain ⟨d, e1, e2⟩ := obind_some ho
  obtain ⟨rc, ok, run⟩ := bi_ok (X := X) hc e2
  have body : tCB rc (GA X [a]) σ H Q := ga_one hs (ha F H ρ σ _ hr ⟨y, _, h1, fun v F1 H1 P q f => run B σ v F1 H1 _ Q P.rel (der_ct P.rel q e1) fun v' F' H' P' q' f' => k v' F' H' (P.trans P') q' (f'.back P)⟩)
  cases hb : biV bi with
  | builtin id =>
    rw [hb] at ok hv
    exact ge_of (pe_callB ok hg hm hv pa_ga hn hdb hs rfl) body
  | type T =>
    rw [hb] at ok hv
    exact ge_of (pe_callTy ok hg hm hv pa_ga hn hdb hs rfl) body
  | _ => cases bi <;> cases hb
theorem se_bi2 {mx : Bool} (hc : X.calm = true) (hg : Gl X x) (hm : X.mg x = none) (hv : bootBuiltins x = some (.builtin (if mx then "max" else "min"))) (hn : x ≠ "__name__") (hdb : (x == ("__debug__" : Str)) = false)
    (hs : starEach [a, b] X.env = (false, eval a X.env) :: starEach [b] X.env) (hs' : starEach [b] X.env = (false, eval b X.env) :: starEach [] X.env) (hpl : (backTo pos (starEach [b] X.env)).any (·.1) = false)
    (ha : SE B X a (evE np cf ca)) (hb : SE B X b (evE np cf cb)) : SE B X (.Call (.Name x p) [a, b] [] pos) (evE np cf (.bi2 mx ca cb)) := by
  intro F H ρ σ Q hr ⟨r, ρ', hm', k⟩
  obtain ⟨y, ρ1, h1, m1⟩ := bind_ok hm'
  obtain ⟨z, ρ2, h2, m2⟩ := bind_ok m1
  split at m2
  · rename_i i j
    cases m2
    cases mx with
    | true =>
      refine ge_of (pe_callB (call_max2 hc) hg hm hv pa_ga hn hdb hs hpl) (ga_two hs hs' (se2 ha hb hr h1 h2 fun vx vy F2 H2 P qx qy => ?_))
      exact ⟨i, j, by rw [show vx = V.int i from qx, show vy = V.int j from qy], k _ F2 H2 P rfl trivial⟩
    | false =>
      refine ge_of (pe_callB (call_min2 hc) hg hm hv pa_ga hn hdb hs hpl) (ga_two hs hs' (se2 ha hb hr h1 h2 fun vx vy F2 H2 P qx qy => ?_))
      exact ⟨i, j, by rw [show vx = V.int i from qx, show vy = V.int j from qy], k _ F2 H2 P rfl trivial⟩
  · cases m2
theorem se_isi {t : Ty} {y : Str} {p2 : Pos} (hg : Gl X "isinstance") (hm : X.mg "isinstance" = none) (hgt : Gl X y) (hmt : X.mg y = none) (hvt : bootBuiltins y = some (.type (tyV t))) (hn : y ≠ "__name__") (hdb : (y == ("__debug__" : Str)) = false)
    (hs : starEach [a, .Name y p2] X.env = (false, eval a X.env) :: starEach [.Name y p2] X.env) (ha : SE B X a (evE np cf ca)) : SE B X (.Call (.Name "isinstance" p) [a, .Name y p2] [] pos) (evE np cf (.isi t ca)) := by
  intro F H ρ σ Q hr ⟨r, ρ', hm', k⟩
  obtain ⟨z, ρ1, h1, m1⟩ := bind_ok hm'
  obtain ⟨b', ρ2, h2, m2⟩ := bind_ok m1
  obtain ⟨ho, e0⟩ := ofO_ok h2
  subst e0
  cases m2
  obtain ⟨d, e1, e2⟩ := obind_some ho
  refine ge_of (pe_callB call_isi hg hm (by decide +kernel) (pa_cons pe_ge (pa_cons (pe_bltn (v := V.ty (tyV t)) hgt hmt hvt rfl hn hdb) pa_nil rfl) hs) (by decide) (by decide) hs rfl) ?_
  refine ha F H ρ σ _ hr ⟨z, _, h1, fun v F1 H1 P q f => ?_⟩
  exact isi_ok e2 B σ v F1 H1 _ Q P.rel (der_ct P.rel q e1) (k _ F1 H1 P rfl trivial)
/-! ### slices -/
def SO (B : Bs) (X : Cx) (e : Option Expr) (c : C) (m : Rho → R RV) : Prop := (e = none ∧ c = .nil) ∨ (∃ e', e = some e' ∧ c ≠ .nil ∧ SE B X e' m)
theorem so_none {m : Rho → R RV} : SO B X none .nil m := .inl ⟨rfl, rfl⟩
theorem so_some (hc : ca ≠ .nil) (h : SE B X a (evE np cf ca)) : SO B X (some a) ca (evE np cf ca) := .inr ⟨a, rfl, hc, h⟩
/-- an end of a slice is reckoned -/
theorem so_run {eo : Option Expr} (h : SO B X eo ca (evE np cf ca)) {F H : Hp} {ρ ρ1 : Rho} {σ : L2.St} {o : Option D} (hr : Rel (km X) B F H ρ σ) (hm : optR ca (evE np cf ca ρ) ρ = .ok o ρ1) :
    ∃ (t : TO) (oi : Option Int), PO X eo t ∧ o = oi.map D.int ∧ ∀ G : Option Int → Hp → Prop, (∀ F1 H1, Post (km X) B σ F H ρ F1 H1 ρ1 → G oi H1) → t σ H G := by
  rcases h with ⟨rfl, rfl⟩ | ⟨e', rfl, hc, h⟩
  · cases hm
    exact ⟨_, none, po_none, rfl, fun G k => k F H (Post.refl hr)⟩
  · have hm : (evE np cf ca ρ).bind (fun x ρ => match x with | .fz (.int i) => R.ok (some (D.int i)) ρ | _ => .fail) = .ok o ρ1 := by
      cases ca <;> first | exact absurd rfl hc | exact hm
    obtain ⟨y, ρ2, h1, m1⟩ := bind_ok hm
    split at m1
    · rename_i i
      cases m1
      refine ⟨_, some i, po_some pe_ge, rfl, fun G k => ?_⟩
      refine h F H ρ σ _ hr ⟨_, _, h1, fun v F1 H1 P q f => ?_⟩
      exact ⟨i, q, k F1 H1 P⟩
    · cases m1
theorem bnd_eq {n dflt k : Nat} {oi : Option Int} (h : bndD n dflt (oi.map D.int) = some k) : k = HT.sIx n dflt oi := by
  cases oi with
  | none => exact (Option.some.inj h).symm
  | some i => exact (Option.some.inj h).symm
theorem cutV_rp {K : KM} {F : Hp} {l : List D} {vs : List V} (lo hi : Option Int) (q : RpL K F l vs) : RpL K F (cutD l (HT.sIx l.length 0 lo) (HT.sIx l.length l.length hi)) (cutV vs lo hi) := by
  unfold cutD cutV
  rw [q.length]
  exact (q.drop _).take _
theorem se_slc {lo hi : Option Expr} {p2 : Pos} {cl ch : C} (ha : SE B X a (evE np cf ca)) (hl : SO B X lo cl (evE np cf cl)) (hh : SO B X hi ch (evE np cf ch)) : SE B X (.Subscript a (.Slice lo hi none p2) pos) (evE np cf (.slc ca cl ch)) := by
  intro F H ρ σ Q hr ⟨r, ρ', hm, k⟩
  obtain ⟨x, ρ1, h1, m1⟩ := bind_ok hm
  obtain ⟨l, ρ2, h2, m2⟩ := bind_ok m1
  obtain ⟨h, ρ3, h3, m3⟩ := bind_ok m2
  obtain ⟨ho, e0⟩ := ofO_ok m3
  subst e0
  obtain ⟨d, e1, e2⟩ := obind_some ho
  have core : ∀ (r0 : V → Option Int → Option Int → Hp → VK → Prop), SlR X r0 → (∀ (oi oj : Option Int), l = oi.map D.int → h = oj.map D.int → ∀ v F3 H3, Post (km X) B σ F H ρ F3 H3 ρ' → Ct (km X) F3 H3 d v → r0 v oi oj H3 Q) → GE X (.Subscript a (.Slice lo hi none p2) pos) σ H Q := by
    intro r0 ok run
    -- the ends' rules do not hang on the state
    have tl : ∃ t, PO X lo t ∧ ∀ F1 H1, Post (km X) B σ F H ρ F1 H1 ρ1 → ∃ oi, l = oi.map D.int ∧ ∀ G : Option Int → Hp → Prop, (∀ F2 H2, Post (km X) B σ F1 H1 ρ1 F2 H2 ρ2 → G oi H2) → t σ H1 G := by
      rcases hl with ⟨rfl, rfl⟩ | ⟨e', rfl, hc, hE⟩
      · cases h2
        exact ⟨_, po_none, fun F1 H1 P => ⟨none, rfl, fun G q => q F1 H1 (Post.refl P.rel)⟩⟩
      · refine ⟨_, po_some pe_ge, fun F1 H1 P => ?_⟩
        have m : (evE np cf cl ρ1).bind (fun x ρ => match x with | .fz (.int i) => R.ok (some (D.int i)) ρ | _ => .fail) = .ok l ρ2 := by
          cases cl <;> first | exact absurd rfl hc | exact h2
        obtain ⟨y, ρ5, g1, g2⟩ := bind_ok m
        split at g2
        · rename_i i
          cases g2
          refine ⟨some i, rfl, fun G q => ?_⟩
          refine hE F1 H1 ρ1 σ _ P.rel ⟨_, _, g1, fun v F2 H2 P2 q2 _ => ?_⟩
          exact ⟨i, q2, q F2 H2 P2⟩
        · cases g2
    have th : ∃ t, PO X hi t ∧ ∀ F1 H1, Post (km X) B σ F H ρ F1 H1 ρ2 → ∃ oi, h = oi.map D.int ∧ ∀ G : Option Int → Hp → Prop, (∀ F2 H2, Post (km X) B σ F1 H1 ρ2 F2 H2 ρ' → G oi H2) → t σ H1 G := by
      rcases hh with ⟨rfl, rfl⟩ | ⟨e', rfl, hc, hE⟩
      · cases h3
        exact ⟨_, po_none, fun F1 H1 P => ⟨none, rfl, fun G q => q F1 H1 (Post.refl P.rel)⟩⟩
      · refine ⟨_, po_some pe_ge, fun F1 H1 P => ?_⟩
        have m : (evE np cf ch ρ2).bind (fun x ρ => match x with | .fz (.int i) => R.ok (some (D.int i)) ρ | _ => .fail) = .ok h ρ' := by
          cases ch <;> first | exact absurd rfl hc | exact h3
        obtain ⟨y, ρ5, g1, g2⟩ := bind_ok m
        split at g2
        · rename_i i
          cases g2
          refine ⟨some i, rfl, fun G q => ?_⟩
          refine hE F1 H1 ρ2 σ _ P.rel ⟨_, _, g1, fun v F2 H2 P2 q2 _ => ?_⟩
          exact ⟨i, q2, q F2 H2 P2⟩
        · cases g2
    obtain ⟨t1, po1, run1⟩ := tl
    obtain ⟨t2, po2, run2⟩ := th
    refine ge_of (pe_slice ok pe_ge po1 po2) (ha F H ρ σ _ hr ⟨x, ρ1, h1, fun v F1 H1 P q f => ?_⟩)
    obtain ⟨oi, ei, g1⟩ := run1 F1 H1 P
    refine g1 _ fun F2 H2 P2 => ?_
    obtain ⟨oj, ej, g2⟩ := run2 F2 H2 (P.trans P2)
    refine g2 _ fun F3 H3 P3 => ?_
    exact run oi oj ei ej v F3 H3 ((P.trans P2).trans P3) (der_ct P3.rel ((q.step P2).step P3) e1)
  unfold slcD at e2
  split at e2
  · rename_i l0
    obtain ⟨n1, b1, e3⟩ := obind_some e2
    obtain ⟨n2, b2, e4⟩ := obind_some e3
    cases e4
    refine core _ sl_list fun oi oj ei ej v F3 H3 P q => ?_
    subst ei ej
    rw [bnd_eq b1, bnd_eq b2] at k
    obtain ⟨p0, vs, rfl, g1, g2⟩ := q.lst P.rel.same
    refine ⟨p0, vs, rfl, SqL.of g1, fun t ht => ?_⟩
    exact k _ F3 _ (P.trans (Post.new P.rel ht)) (RvOk.newOw P.rel ht ⟨_, rfl, cutV_rp oi oj g2⟩) (Fresh.back P (r := .ow _) fun p' e => by cases e; exact ht)
  · rename_i l0
    obtain ⟨n1, b1, e3⟩ := obind_some e2
    obtain ⟨n2, b2, e4⟩ := obind_some e3
    cases e4
    refine core _ sl_tupA fun oi oj ei ej v F3 H3 P q => ?_
    subst ei ej
    rw [bnd_eq b1, bnd_eq b2] at k
    have g0 : Rp (km X) F3 (.tup l0) v := by
      rcases q with q | ⟨_, _, _, _, q⟩
      · exact q
      · exact q.elim
    obtain ⟨p0, vs, rfl, g1, g2⟩ := q.tup P.rel.same
    have gc := cutV_rp oi oj g2
    refine ⟨p0, vs, rfl, SqT.of g1, fun hw => ?_, fun hw t ht => ?_⟩
    · have ec : cutD l0 (HT.sIx l0.length 0 oi) (HT.sIx l0.length l0.length oj) = l0 := by
        rw [g2.length] at hw
        rw [hw.1, hw.2]
        unfold cutD
        rw [List.drop_zero, Nat.sub_zero, List.take_length]
      rw [ec] at k
      exact k _ F3 H3 P g0 trivial
    · obtain ⟨P2, q2⟩ := Post.newTup P.rel ht gc
      exact k _ _ _ (P.trans P2) q2 trivial
  · cases e2
/-! ### join -/
theorem strs_of {K : KM} {F : Hp} : ∀ {l : List D} {vs : List V} {ys : List Str}, strsD l = some ys → RpL K F l vs → vs = ys.map V.str
  | [], vs, ys, h, q => by cases h; exact q
  | .str c :: l, _, ys, h, q => by
    obtain ⟨v, r, rfl, h1, h2⟩ := q
    obtain ⟨ys', h3, rfl⟩ := omap_some (show (strsD l).map (c :: ·) = some ys from h)
    rw [show v = V.str c from h1, strs_of h3 h2]
    rfl
  | .non :: l, _, b, h, q => by cases h
  | .int _ :: l, _, b, h, q => by cases h
  | .bl _ :: l, _, b, h, q => by cases h
  | .lst _ :: l, _, b, h, q => by cases h
  | .tup _ :: l, _, b, h, q => by cases h
  | .dct _ _ :: l, _, b, h, q => by cases h
  | .dcT _ _ :: l, _, b, h, q => by cases h
  | .obj _ _ :: l, _, b, h, q => by cases h
  | .scr _ :: l, _, b, h, q => by cases h
theorem se_join {apos : Pos} (hs : starEach [b] X.env = [(false, eval b X.env)]) (hbase : attributeBase a "join" X.env (eval a X.env) = eval a X.env) (hline : (apos.endLine == pos.line) = true) (ha : SE B X a (evE np cf ca)) (hb : SE B X b (evE np cf cb)) :
    SE B X (.Call (.Attribute a "join" apos) [b] [] pos) (evE np cf (.join ca cb)) := by
  intro F H ρ σ Q hr ⟨r, ρ', hm, k⟩
  obtain ⟨x, ρ1, h1, m1⟩ := bind_ok hm
  split at m1
  · rename_i s
    obtain ⟨y, ρ2, h2, m2⟩ := bind_ok m1
    obtain ⟨d, ρ3, h3, m3⟩ := bind_ok m2
    obtain ⟨ho, e0⟩ := ofO_ok h3
    subst e0
    cases m3
    obtain ⟨d2, e2, e3⟩ := obind_some ho
    unfold joinD at e3
    split at e3
    · rename_i l
      obtain ⟨ys, g1, g2⟩ := obind_some e3
      split at g2
      · rename_i hz
        cases g2
        refine ge_of (pe_join pe_ge pe_ge hs hbase hline) ?_
        refine ha F H ρ σ _ hr ⟨_, ρ1, h1, fun vx F1 H1 P1 q1 _ => ⟨⟨s, q1⟩, ?_⟩⟩
        refine hb F1 H1 ρ1 σ _ P1.rel ⟨_, _, h2, fun vy F2 H2 P2 q2 _ => ?_⟩
        obtain ⟨p0, vs, rfl, g3, g4⟩ := (der_ct P2.rel q2 e2).lst P2.rel.same
        have ev := strs_of g1 g4
        subst ev
        refine ⟨s, p0, ys, q1, rfl, .inl (SqL.of g3), ?_, k _ F2 H2 (P1.trans P2) rfl trivial⟩
        have := maxLen_le hz
        rw [sizeLine_eq] at this
        exact this
      · cases g2
    · cases e3
  · cases m1
end
end PV

/-! PvS4: what is walked, targets, comprehensions. -/
namespace PV
open PySem L2
/-! ### slots -/
section
variable {K : KM} {B : Bs} {σ : L2.St} {F F1 F' H H1 H' : Hp} {ρ ρ1 ρ' : Rho} {v : V} {d : D}
theorem Rel.setFz (h : Rel K B F H ρ σ) {i : Nat} (hn : B.np ≤ i) (hi : i < ρ.length) (q : Rp K F d v) : Rel K B F H (ρ.set i (.fz d)) (σ.set i (some v)) := by
  have hs : i < σ.length := by rw [← h.len]; exact hi
  have ow' : ∀ j p, OwnAt (ρ.set i (.fz d)) (σ.set i (some v)) j p → j ≠ i ∧ OwnAt ρ σ j p := fun j p ⟨d', g1, g2⟩ => by
    by_cases hj : j = i
    · subst hj
      rw [List.getElem?_set_self hi] at g1
      cases g1
    · rw [List.getElem?_set_ne (Ne.symm hj)] at g1 g2
      exact ⟨hj, d', g1, g2⟩
  refine ⟨h.same, by rw [List.length_set, List.length_set]; exact h.len, fun j => ?_, fun j k p a b => h.dis j k p (ow' j p a).2 (ow' k p b).2, h.sameB, h.pre, h.dom, h.frz, fun j p g a => h.loc j p g (ow' j p a).2, fun j p g a => h.par j p g (ow' j p a).2, fun j hj => ?_⟩
  · by_cases hj : j = i
    · subst hj
      rw [List.getElem?_set_self hi, List.getElem?_set_self hs]
      exact ⟨v, rfl, q⟩
    · rw [List.getElem?_set_ne (Ne.symm hj), List.getElem?_set_ne (Ne.symm hj)]
      exact h.sl j
  · rw [List.getElem?_set_ne (by omega)]
    exact h.arg j hj
theorem Rel.setUn (h : Rel K B F H ρ σ) {i : Nat} (hn : B.np ≤ i) (w : Option V) : Rel K B F H (ρ.set i .un) (σ.set i w) := by
  have ow' : ∀ j p, OwnAt (ρ.set i .un) (σ.set i w) j p → j ≠ i ∧ OwnAt ρ σ j p := fun j p ⟨d', g1, g2⟩ => by
    by_cases hj : j = i
    · subst hj
      rw [List.getElem?_set] at g1
      simp only [if_true] at g1
      split at g1 <;> cases g1
    · rw [List.getElem?_set_ne (Ne.symm hj)] at g1 g2
      exact ⟨hj, d', g1, g2⟩
  refine ⟨h.same, by rw [List.length_set, List.length_set]; exact h.len, fun j => ?_, fun j k p a b => h.dis j k p (ow' j p a).2 (ow' k p b).2, h.sameB, h.pre, h.dom, h.frz, fun j p g a => h.loc j p g (ow' j p a).2, fun j p g a => h.par j p g (ow' j p a).2, fun j hj => ?_⟩
  · by_cases hj : j = i
    · subst hj
      rw [List.getElem?_set]
      simp only [if_true]
      split <;> trivial
    · rw [List.getElem?_set_ne (Ne.symm hj), List.getElem?_set_ne (Ne.symm hj)]
      exact h.sl j
  · rw [List.getElem?_set_ne (by omega)]
    exact h.arg j hj
theorem Rel.setOw (h : Rel K B F H ρ σ) {i : Nat} {p : Addr} {o : HO} (hn : B.np ≤ i) (hi : i < ρ.length) (g1 : H p = some o) (g2 : F p = none) (g3 : RpO K F p d o) (g4 : ∀ i, ¬ OwnAt ρ σ i p) (g5 : B.H p = none) :
    Rel K B F H (ρ.set i (.ow d)) (σ.set i (some (.ref p))) := by
  have hs : i < σ.length := by rw [← h.len]; exact hi
  have ow' : ∀ j q, OwnAt (ρ.set i (.ow d)) (σ.set i (some (.ref p))) j q → (j = i ∧ q = p) ∨ (j ≠ i ∧ OwnAt ρ σ j q) := fun j q ⟨d', e1, e2⟩ => by
    by_cases hj : j = i
    · subst hj
      rw [List.getElem?_set_self hs] at e2
      cases e2
      exact .inl ⟨rfl, rfl⟩
    · rw [List.getElem?_set_ne (Ne.symm hj)] at e1 e2
      exact .inr ⟨hj, d', e1, e2⟩
  refine ⟨h.same, by rw [List.length_set, List.length_set]; exact h.len, fun j => ?_, fun j k q a b => ?_, h.sameB, h.pre, h.dom, h.frz, fun j q g a => ?_, fun j q g a => ?_, fun j hj => ?_⟩
  · by_cases hj : j = i
    · subst hj
      rw [List.getElem?_set_self hi, List.getElem?_set_self hs]
      exact ⟨p, o, rfl, g1, g2, g3⟩
    · rw [List.getElem?_set_ne (Ne.symm hj), List.getElem?_set_ne (Ne.symm hj)]
      exact h.sl j
  · rcases ow' j q a with ⟨e1, e2⟩ | ⟨n1, a1⟩
    · rcases ow' k q b with ⟨e3, e4⟩ | ⟨n2, b1⟩
      · rw [e1, e3]
      · rw [e2] at b1
        exact absurd b1 (g4 k)
    · rcases ow' k q b with ⟨e3, e4⟩ | ⟨n2, b1⟩
      · rw [e4] at a1
        exact absurd a1 (g4 j)
      · exact h.dis j k q a1 b1
  · rcases ow' j q a with ⟨e1, e2⟩ | ⟨n1, a1⟩
    · rw [e2]; exact g5
    · exact h.loc j q g a1
  · rcases ow' j q a with ⟨e1, e2⟩ | ⟨n1, a1⟩
    · omega
    · exact h.par j q g a1
  · rw [List.getElem?_set_ne (by omega)]
    exact h.arg j hj
/-- a thing that no name holds is written -/
theorem Rel.write (h : Rel K B F H ρ σ) {p : Addr} {o o' : HO} (g1 : H p = some o) (g2 : F p = none) (g4 : ∀ i, ¬ OwnAt ρ σ i p) (g5 : B.H p = none) : Rel K B F (upd H p o') ρ σ := by
  have sm : Same F (upd H p o') := fun b x q => by
    rw [upd_ne (ne_of_none q g2)]
    exact h.same b x q
  refine ⟨sm, h.len, fun j => ?_, h.dis, h.sameB, fun b x q n => ?_, fun b x q => ?_, h.frz, h.loc, h.par, h.arg⟩
  · have sj := h.sl j
    cases g : ρ[j]? with
    | none => trivial
    | some w =>
      rw [g] at sj
      cases w with
      | un => trivial
      | fz d' => exact sj
      | ow d' =>
        obtain ⟨p', o', q1, q2, q3, q4⟩ := sj
        exact ⟨p', o', q1, by rw [upd_ne fun z => g4 j ⟨d', g, by rw [q1, z]⟩]; exact q2, q3, q4⟩
  · rw [upd_ne (ne_of_none q g5)]
    exact h.pre b x q n
  · rw [upd_ne (ne_of_none q g5)]
    exact h.dom b x q
theorem Rel.bfree (h : Rel K B F H ρ σ) {p : Addr} (hp : H p = none) : B.H p = none := by
  cases q : B.H p with
  | none => rfl
  | some x =>
    obtain ⟨_, z⟩ := h.dom p x q
    rw [hp] at z
    cases z
end
/-! ### what is walked -/
/-- an item comes: it stands already, or it is a new tuple -/
def YOk (K : KM) (F H : Hp) (d : D) (x : V) (H' : Hp) : Prop := (H' = H ∧ Rp K F d x) ∨ ∃ T xs l, H T = none ∧ H' = upd H T (.tup xs) ∧ x = .ref T ∧ d = .tup l ∧ RpL K F l xs
structure ItOk (K : KM) (F : Hp) (J : It) (ds : List D) : Prop where
  go : ∀ i H, Same F H → i < ds.length → J.go i H
  stop : ∀ i H, Same F H → ds.length ≤ i → J.stop i H
  yld : ∀ i H x H', Same F H → J.yld i H x H' → i < ds.length → ∃ d, ds[i]? = some d ∧ YOk K F H d x H'
def SI (B : Bs) (X : Cx) (tg iter : Expr) (m : Rho → R (List D)) : Prop := ∀ F H ρ σ Z, Rel (km X) B F H ρ σ → (∃ ds ρ', m ρ = .ok ds ρ' ∧ ∀ J F' H', Post (km X) B σ F H ρ F' H' ρ' → ItOk (km X) F' J ds → Z J H') → GI X tg iter σ H Z
theorem YOk.step {K : KM} {B : Bs} {F F1 H H' : Hp} {ρ : Rho} {σ : L2.St} {d : D} {x : V} (h : YOk K F H d x H') (sm : Same F F1) (hr : Rel K B F1 H ρ σ) : ∃ F2, Post K B σ F1 H ρ F2 H' ρ ∧ Rp K F2 d x := by
  rcases h with ⟨rfl, q⟩ | ⟨T, xs, l, hT, rfl, rfl, rfl, q⟩
  · exact ⟨F1, Post.refl hr, Rp.mono sm _ _ q⟩
  · obtain ⟨P, q'⟩ := Post.newTup hr hT (RpL.mono sm _ _ q)
    exact ⟨_, P, q'⟩
theorem itok_list {K : KM} {F : Hp} {a : Addr} {vs : List V} {l : List D} (h : F a = some (.lst vs)) (q : RpL K F l vs) : ItOk K F (Itl K.fr a) l := by
  have eq : ∀ H xs, Same F H → SqL K.fr H a xs → True := fun _ _ _ _ => trivial
  refine ⟨fun i H s hi => ?_, fun i H s hi => ⟨vs, SqL.of (s _ _ h), by rw [q.length]; exact hi⟩, fun i H x H' s y hi => ?_⟩
  · obtain ⟨v, e, _⟩ := q.get (List.getElem?_eq_getElem hi)
    exact ⟨vs, v, SqL.of (s _ _ h), e⟩
  · obtain ⟨e, y⟩ := y
    obtain ⟨v, e', rp⟩ := q.get (List.getElem?_eq_getElem hi)
    have := y vs (SqL.of (s _ _ h))
    rw [this] at e'
    cases e'
    exact ⟨l[i], List.getElem?_eq_getElem hi, .inl ⟨e, rp⟩⟩
theorem itok_tup {K : KM} {F : Hp} {a : Addr} {vs : List V} {l : List D} (h : F a = some (.tup vs)) (q : RpL K F l vs) : ItOk K F (Itt K.fr a) l := by
  refine ⟨fun i H s hi => ?_, fun i H s hi => ⟨vs, SqT.of (s _ _ h), by rw [q.length]; exact hi⟩, fun i H x H' s y hi => ?_⟩
  · obtain ⟨v, e, _⟩ := q.get (List.getElem?_eq_getElem hi)
    exact ⟨vs, v, SqT.of (s _ _ h), e⟩
  · obtain ⟨e, y⟩ := y
    obtain ⟨v, e', rp⟩ := q.get (List.getElem?_eq_getElem hi)
    have := y vs (SqT.of (s _ _ h))
    rw [this] at e'
    cases e'
    exact ⟨l[i], List.getElem?_eq_getElem hi, .inl ⟨e, rp⟩⟩
theorem itok_str {K : KM} {F : Hp} {s : Str} : ItOk K F (Its s) (s.cps.toList.map fun c => .str ⟨#[c]⟩) := by
  have hl : (s.cps.toList.map fun c => D.str ⟨#[c]⟩).length = s.cps.size := by rw [List.length_map, Array.length_toList]
  refine ⟨fun i H _ hi => by rw [hl] at hi; exact hi, fun i H _ hi => by rw [hl] at hi; exact hi, fun i H x H' _ y hi => ?_⟩
  obtain ⟨e, c, hc, rfl⟩ := y
  refine ⟨.str ⟨#[c]⟩, ?_, .inl ⟨e, rfl⟩⟩
  rw [List.getElem?_map, Array.getElem?_toList, hc]
  rfl
theorem itok_rng {K : KM} {F : Hp} (lo : Int) (n : Nat) : ItOk K F (Itr lo n) (rngD lo n) := by
  have hl : (rngD lo n).length = n := by unfold rngD; rw [List.length_map, List.length_range]
  refine ⟨fun i H _ hi => by rw [hl] at hi; exact hi, fun i H _ hi => by rw [hl] at hi; exact hi, fun i H x H' _ y hi => ?_⟩
  obtain ⟨e, rfl⟩ := y
  rw [hl] at hi
  refine ⟨.int (lo + i), ?_, .inl ⟨e, rfl⟩⟩
  unfold rngD
  rw [List.getElem?_map, List.getElem?_range hi]
  rfl
section
variable {B : Bs} {X : Cx} {e a b c tg : Expr} {pos p : Pos} {np : Nat} {cf : Nat → List Sl → CRes} {ca cb cc ct : C} {x : Str}
theorem si_val (ha : SE B X a (evE np cf ca)) : SI B X tg a (evI np cf (.iVal ca)) := by
  intro F H ρ σ Z hr ⟨ds, ρ', hm, k⟩
  obtain ⟨r, ρ1, h1, m1⟩ := bind_ok hm
  obtain ⟨d, ρ2, h2, m2⟩ := bind_ok m1
  obtain ⟨ho, e0⟩ := ofO_ok m2
  subst e0
  have run : ∀ (G : V → Hp → Prop), (∀ v F' H', Post (km X) B σ F H ρ F' H' ρ' → Rp (km X) F' d v → G v H') → GE X a σ H G := fun G q => ha.sd F H ρ σ G hr ⟨d, ρ', by show (evE np cf ca ρ).bind _ = _; rw [h1]; exact h2, q⟩
  unfold seqD at ho
  split at ho
  · rename_i l
    cases ho
    refine gi_of (pi_list pe_ge) (run _ fun v F' H' P q => ?_)
    obtain ⟨a0, vs, rfl, g1, g2⟩ := q
    exact ⟨a0, rfl, ⟨vs, SqL.of (P.rel.same _ _ g1)⟩, k _ F' H' P (itok_list g1 g2)⟩
  · rename_i l
    cases ho
    refine gi_of (pi_tup pe_ge) (run _ fun v F' H' P q => ?_)
    obtain ⟨a0, vs, rfl, g1, g2⟩ := q
    exact ⟨a0, rfl, ⟨vs, SqT.of (P.rel.same _ _ g1)⟩, k _ F' H' P (itok_tup g1 g2)⟩
  · rename_i s
    cases ho
    refine gi_of (pi_str pe_ge) (run _ fun v F' H' P q => ?_)
    exact ⟨s, q, k _ F' H' P itok_str⟩
  · cases ho
theorem si_rng1 (hg : Gl X "range") (hm : X.mg "range" = none) (hs : starEach [a] X.env = [(false, eval a X.env)]) (hs' : starEach [a] X.env = (false, eval a X.env) :: starEach [] X.env) (ha : SE B X a (evE np cf ca)) : SI B X tg (.Call (.Name "range" p) [a] [] pos) (evI np cf (.iRng1 ca)) := by
  intro F H ρ σ Z hr ⟨ds, ρ', hm', k⟩
  obtain ⟨r, ρ1, h1, m1⟩ := bind_ok hm'
  split at m1
  · rename_i j
    split at m1
    · rename_i hj
      cases m1
      refine gi_of (pi_range1 hg hm pa_ga hs) (ga_one hs' (ha F H ρ σ _ hr ⟨_, _, h1, fun v F1 H1 P q f => ?_⟩))
      exact ⟨j, by rw [show v = V.int j from q], hj.1, hj.2, k _ F1 H1 P (itok_rng 0 _)⟩
    · cases m1
  · cases m1
theorem si_rng2 (hg : Gl X "range") (hm : X.mg "range" = none) (hs : starEach [a, b] X.env = [(false, eval a X.env), (false, eval b X.env)]) (hs1 : starEach [a, b] X.env = (false, eval a X.env) :: starEach [b] X.env) (hs2 : starEach [b] X.env = [(false, eval b X.env)])
    (hs3 : starEach [b] X.env = (false, eval b X.env) :: starEach [] X.env) (ha : SE B X a (evE np cf ca)) (hb : SE B X b (evE np cf cb)) : SI B X tg (.Call (.Name "range" p) [a, b] [] pos) (evI np cf (.iRng2 ca cb)) := by
  intro F H ρ σ Z hr ⟨ds, ρ', hm', k⟩
  obtain ⟨r, ρ1, h1, m1⟩ := bind_ok hm'
  obtain ⟨r2, ρ2, h2, m2⟩ := bind_ok m1
  split at m2
  · rename_i i j
    split at m2
    · rename_i hj
      cases m2
      refine gi_of (pi_range2 hg hm pa_ga hs hs2) (ga_two hs1 hs3 (se2 ha hb hr h1 h2 fun vx vy F2 H2 P qx qy => ?_))
      exact ⟨i, j, by rw [show vx = V.int i from qx, show vy = V.int j from qy], hj, k _ F2 H2 P (itok_rng i _)⟩
    · cases m2
  · cases m2
theorem rpl_rng {K : KM} {F : Hp} (lo : Int) : ∀ l : List Nat, RpL K F (l.map fun (k : Nat) => D.int (lo + (k : Int))) (l.map fun (k : Nat) => V.int (lo + (k : Nat)))
  | [] => rfl
  | _ :: l => ⟨_, _, rfl, rfl, rpl_rng lo l⟩
/-- list(range(a, b)) -/
theorem se_lrng2 {q1 q2 : Pos} (hc : X.calm = true) (hgl : Gl X "list") (hml : X.mg "list" = none) (hg : Gl X "range") (hm : X.mg "range" = none) (hs1 : starEach [a, b] X.env = (false, eval a X.env) :: starEach [b] X.env) (hs3 : starEach [b] X.env = (false, eval b X.env) :: starEach [] X.env)
    (hpl : (backTo q2 (starEach [b] X.env)).any (·.1) = false) (hs4 : starEach [Expr.Call (.Name "range" q1) [a, b] [] q2] X.env = (false, eval (.Call (.Name "range" q1) [a, b] [] q2) X.env) :: starEach [] X.env) (ha : SE B X a (evE np cf ca)) (hb : SE B X b (evE np cf cb)) :
    SE B X (.Call (.Name "list" p) [.Call (.Name "range" q1) [a, b] [] q2] [] pos) (evE np cf (.lrng (.iRng2 ca cb))) := by
  intro F H ρ σ Q hr ⟨r, ρ', hm', k⟩
  obtain ⟨ds, ρ0, h0, m0⟩ := bind_ok hm'
  obtain ⟨r1, ρ1, h1, m1⟩ := bind_ok h0
  obtain ⟨r2, ρ2, h2, m2⟩ := bind_ok m1
  split at m2
  · rename_i i j
    split at m2
    · rename_i hj
      cases m2
      split at m0
      · rename_i hl
        cases m0
        have hn : (j - i).toNat ≤ maxLen := by
          have e : (rngD i (j - i).toNat).length = (j - i).toNat := by unfold rngD; rw [List.length_map, List.length_range]
          rw [e] at hl
          exact hl
        unfold maxLen at hn
        refine ge_of (pe_listRg hc hgl hml (prg_2 hg hm pe_ge pe_ge hs1 hs3 hpl) hs4) (se2 ha hb hr h1 h2 fun vx vy F2 H2 P qx qy => ?_)
        refine ⟨i, j, qx, qy, ⟨hj.1, hj.2.1, hj.2.2.1, hj.2.2.2, by omega⟩, fun t ht => ?_⟩
        exact k _ F2 _ (P.trans (Post.new P.rel ht)) (RvOk.newOw P.rel ht ⟨_, rfl, rpl_rng i _⟩) (Fresh.back P (r := .ow _) fun p' e => by cases e; exact ht)
      · cases m0
    · cases m2
  · cases m2
/-! ### targets -/
structure GG (X : Cx) (tg : Expr) (v : V) (σ : L2.St) (H : Hp) (Q : L2.St → Hp → Prop) : Prop where
  run : ∀ pins s u, Inv X pins σ H s → RelV v u → wpAny (model X.prog X.w) X.A (assign tg X.env u) (fun _ s' => ∃ σ' H', Inv X pins σ' H' s' ∧ Q σ' H') X.xe s
structure GGs (X : Cx) (ts : List Expr) (vs : List V) (σ : L2.St) (H : Hp) (Q : L2.St → Hp → Prop) : Prop where
  run : ∀ pins s us, Inv X pins σ H s → Vals vs us → wpAny (model X.prog X.w) X.A (assignInOrder ((assignEach ts X.env).map (·.2)) us) (fun _ s' => ∃ σ' H', Inv X pins σ' H' s' ∧ Q σ' H') X.xe s
theorem pg_gg : PG X tg (GG X tg) := ⟨fun pins s σ H v u Q I r h => h.run pins s u I r⟩
theorem pgs_ggs {ts : List Expr} : PGs X ts (GGs X ts) := ⟨fun pins s σ H vs us Q I r h => h.run pins s us I r⟩
theorem gg_of {g : TG} {v : V} {σ : L2.St} {H : Hp} {Q : L2.St → Hp → Prop} (h : PG X tg g) (q : g v σ H Q) : GG X tg v σ H Q := ⟨fun pins s u I r => h.run pins s σ H v u Q I r q⟩
theorem ggs_of {ts : List Expr} {g : TGs} {vs : List V} {σ : L2.St} {H : Hp} {Q : L2.St → Hp → Prop} (h : PGs X ts g) (q : g vs σ H Q) : GGs X ts vs σ H Q := ⟨fun pins s us I r => h.run pins s σ H vs us Q I r q⟩
mutual
def tgS : C → List Nat
  | .tName i => [i]
  | .tTup ts => tgSs ts
  | _ => []
def tgSs : C → List Nat
  | .cons t ts => tgS t ++ tgSs ts
  | _ => []
end
/-- what stays: the slots but those of the target, who owns what -/
structure Stay (l : List Nat) (ρ : Rho) (σ : L2.St) (ρ' : Rho) (σ' : L2.St) : Prop where
  len : σ'.length = σ.length
  eq : ∀ i : Nat, i ∉ l → σ'[i]? = σ[i]? ∧ ρ'[i]? = ρ[i]?
  own : ∀ i p, OwnAt ρ' σ' i p → OwnAt ρ σ i p
theorem Stay.refl {l : List Nat} {ρ : Rho} {σ : L2.St} : Stay l ρ σ ρ σ := ⟨rfl, fun _ _ => ⟨rfl, rfl⟩, fun _ _ h => h⟩
theorem Stay.trans {l l1 l2 : List Nat} {ρ ρ1 ρ2 : Rho} {σ σ1 σ2 : L2.St} (a : Stay l1 ρ σ ρ1 σ1) (b : Stay l2 ρ1 σ1 ρ2 σ2) (h1 : ∀ i ∈ l1, i ∈ l) (h2 : ∀ i ∈ l2, i ∈ l) : Stay l ρ σ ρ2 σ2 :=
  ⟨b.len.trans a.len, fun i hi => ⟨((b.eq i fun z => hi (h2 i z)).1).trans (a.eq i fun z => hi (h1 i z)).1, ((b.eq i fun z => hi (h2 i z)).2).trans (a.eq i fun z => hi (h1 i z)).2⟩, fun i p q => a.own i p (b.own i p q)⟩
def SG (B : Bs) (X : Cx) (tg : Expr) (ct : C) : Prop := ∀ F H ρ σ v d ρ' Q, Rel (km X) B F H ρ σ → Rp (km X) F d v → bindT B.np ct d ρ = some ρ' → (∀ σ', Rel (km X) B F H ρ' σ' → Stay (tgS ct) ρ σ ρ' σ' → Q σ' H) → GG X tg v σ H Q
def SGs (B : Bs) (X : Cx) (ts : List Expr) (ct : C) : Prop := ∀ F H ρ σ vs l ρ' Q, Rel (km X) B F H ρ σ → RpL (km X) F l vs → bindTs B.np ct l ρ = some ρ' → (∀ σ', Rel (km X) B F H ρ' σ' → Stay (tgSs ct) ρ σ ρ' σ' → Q σ' H) → GGs X ts vs σ H Q
theorem setSl_some {np i : Nat} {s : Sl} {ρ ρ' : Rho} (h : setSl np i s ρ = some ρ') : np ≤ i ∧ i < ρ.length ∧ ρ' = ρ.set i s := by
  unfold setSl at h
  split at h
  · rename_i hc
    exact ⟨hc.1, hc.2, (Option.some.inj h).symm⟩
  · cases h
theorem stay_set {ρ : Rho} {σ : L2.St} {i : Nat} {d : D} {v : V} (hi : i < ρ.length) : Stay [i] ρ σ (ρ.set i (.fz d)) (σ.set i (some v)) := by
  refine ⟨List.length_set .., fun j hj => ?_, fun j p ⟨d', g1, g2⟩ => ?_⟩
  · have hj : i ≠ j := fun z => hj (by rw [z]; exact List.mem_singleton.mpr rfl)
    exact ⟨List.getElem?_set_ne hj, List.getElem?_set_ne hj⟩
  · by_cases hj : j = i
    · subst hj
      rw [List.getElem?_set_self hi] at g1
      cases g1
    · rw [List.getElem?_set_ne (Ne.symm hj)] at g1 g2
      exact ⟨d', g1, g2⟩
theorem sg_name {i : Nat} {x : Str} (hN : X.N.Nodup) (hi : X.N[i]? = some x) (hx : Loc X.env.scope x) (hf : X.fn x = true ∨ X.env.scope.names.lookup x = some .local) : SG B X (.Name x pos) (.tName i) := by
  intro F H ρ σ v d ρ' Q hr q hb k
  obtain ⟨h1, h2, rfl⟩ := setSl_some hb
  exact gg_of (pg_name hN hi hx hf) (k _ (hr.setFz h1 h2 q) (stay_set h2))
theorem sgs_nil : SGs B X [] .nil := by
  intro F H ρ σ vs l ρ' Q hr q hb k
  cases l with
  | cons _ _ => cases hb
  | nil =>
    cases hb
    exact ggs_of pgs_nil ⟨q, k σ hr Stay.refl⟩
theorem sgs_cons {ts : List Expr} (ht : SG B X a ca) (hts : SGs B X ts cb) (hs : (assignEach (a :: ts) X.env).map (·.2) = assign a X.env :: (assignEach ts X.env).map (·.2)) : SGs B X (a :: ts) (.cons ca cb) := by
  intro F H ρ σ vs l ρ' Q hr q hb k
  cases l with
  | nil => cases hb
  | cons d l =>
    obtain ⟨v, r, rfl, q1, q2⟩ := q
    obtain ⟨ρ1, b1, b2⟩ := obind_some (show (bindT B.np ca d ρ).bind (fun ρ => bindTs B.np cb l ρ) = some ρ' from hb)
    refine ggs_of (pgs_cons pg_gg pgs_ggs hs) ⟨v, r, rfl, ?_⟩
    refine ht F H ρ σ v d ρ1 _ hr q1 b1 fun σ1 r1 s1 => ?_
    refine hts F H ρ1 σ1 r l ρ' _ r1 q2 b2 fun σ2 r2 s2 => ?_
    exact k σ2 r2 (s1.trans s2 (fun i hi => List.mem_append_left _ hi) fun i hi => List.mem_append_right _ hi)
theorem bindTs_len {np : Nat} : ∀ {ct : C} {l : List D} {ρ ρ' : Rho} {ts : List Expr} {X : Cx} {B : Bs}, bindTs np ct l ρ = some ρ' → SGs B X ts ct → True := fun _ _ => trivial
theorem sg_tup {ts : List Expr} {k0 n : Nat} (hc : X.calm = true) (h : SGs B X ts ca) (hn : (assignEach ts X.env).length = n) (hst : (assignEach ts X.env).findIdx? (·.1) = none) (hlen : ∀ l ρ ρ', bindTs B.np ca l ρ = some ρ' → l.length = n) : SG B X (.Tuple ts k0 pos) (.tTup ca) := by
  intro F H ρ σ v d ρ' Q hr q hb k
  cases d with
  | tup l =>
    obtain ⟨a0, vs, rfl, g1, g2⟩ := q
    refine gg_of (pg_tup hc pgs_ggs hn hst) ⟨a0, vs, rfl, SqT.of (hr.same _ _ g1), by rw [g2.length]; exact hlen l ρ ρ' hb, ?_⟩
    exact h F H ρ σ vs l ρ' Q hr g2 hb k
  | _ => cases hb
def clen : C → Nat
  | .cons _ ts => clen ts + 1
  | _ => 0
theorem bindTs_length {np : Nat} : ∀ (ct : C) (l : List D) (ρ ρ' : Rho), bindTs np ct l ρ = some ρ' → l.length = clen ct
  | .nil, [], _, _, _ => rfl
  | .cons t ts, d :: l, ρ, ρ', h => by
    obtain ⟨ρ1, b1, b2⟩ := obind_some (show (bindT np t d ρ).bind (fun ρ => bindTs np ts l ρ) = some ρ' from h)
    have := bindTs_length ts l ρ1 ρ' b2
    show l.length + 1 = clen ts + 1
    omega
  | .nil, _ :: _, _, _, h => by cases h
  | .cons _ _, [], _, _, h => by cases h
  | .con _, l, _, _, h => by cases l <;> cases h
  | .slot _, l, _, _, h => by cases l <;> cases h
  | .bin _ _ _, l, _, _, h => by cases l <;> cases h
  | .neg _, l, _, _, h => by cases l <;> cases h
  | .notV _, l, _, _, h => by cases l <;> cases h
  | .andV _ _, l, _, _, h => by cases l <;> cases h
  | .orV _ _, l, _, _, h => by cases l <;> cases h
  | .cmp _ _ _, l, _, _, h => by cases l <;> cases h
  | .chain _ _ _ _ _, l, _, _, h => by cases l <;> cases h
  | .isN _, l, _, _, h => by cases l <;> cases h
  | .isNotN _, l, _, _, h => by cases l <;> cases h
  | .ite _ _ _, l, _, _, h => by cases l <;> cases h
  | .tup _, l, _, _, h => by cases l <;> cases h
  | .lst _, l, _, _, h => by cases l <;> cases h
  | .call _ _, l, _, _, h => by cases l <;> cases h
  | .call1 _ _, l, _, _, h => by cases l <;> cases h
  | .callS _ _, l, _, _, h => by cases l <;> cases h
  | .dict0, l, _, _, h => by cases l <;> cases h
  | .lrng _, l, _, _, h => by cases l <;> cases h
  | .bi _ _, l, _, _, h => by cases l <;> cases h
  | .bi2 _ _ _, l, _, _, h => by cases l <;> cases h
  | .isi _ _, l, _, _, h => by cases l <;> cases h
  | .sub _ _, l, _, _, h => by cases l <;> cases h
  | .slc _ _ _, l, _, _, h => by cases l <;> cases h
  | .join _ _, l, _, _, h => by cases l <;> cases h
  | .lc _ _ _ _ _, l, _, _, h => by cases l <;> cases h
  | .iVal _, l, _, _, h => by cases l <;> cases h
  | .iRng1 _, l, _, _, h => by cases l <;> cases h
  | .iRng2 _ _, l, _, _, h => by cases l <;> cases h
  | .tName _, l, _, _, h => by cases l <;> cases h
  | .tTup _, l, _, _, h => by cases l <;> cases h
  | .tNot _, l, _, _, h => by cases l <;> cases h
  | .tAnd _ _, l, _, _, h => by cases l <;> cases h
  | .tOr _ _, l, _, _, h => by cases l <;> cases h
  | .tVal _, l, _, _, h => by cases l <;> cases h
  | .sAsg _ _, l, _, _, h => by cases l <;> cases h
  | .sPar _ _ _ _, l, _, _, h => by cases l <;> cases h
  | .sSub _ _ _, l, _, _, h => by cases l <;> cases h
  | .sAug _ _ _, l, _, _, h => by cases l <;> cases h
  | .sExpr _, l, _, _, h => by cases l <;> cases h
  | .sIf _ _ _, l, _, _, h => by cases l <;> cases h
  | .sFor _ _ _, l, _, _, h => by cases l <;> cases h
  | .sWhile _ _, l, _, _, h => by cases l <;> cases h
  | .sRet _, l, _, _, h => by cases l <;> cases h
  | .sRetN, l, _, _, h => by cases l <;> cases h
  | .sPass, l, _, _, h => by cases l <;> cases h
  | .sNever, l, _, _, h => by cases l <;> cases h
end
end PV

/-! PvS5: comprehensions. -/
namespace PV
open PySem L2
theorem wipeS_len (ρ : Rho) : ∀ vs : List Nat, (wipeS ρ vs).length = ρ.length
  | [] => rfl
  | v :: vs => by unfold wipeS; rw [List.length_set, wipeS_len ρ vs]
theorem wipeS_out {ρ : Rho} {i : Nat} : ∀ {vs : List Nat}, i ∉ vs → (wipeS ρ vs)[i]? = ρ[i]?
  | [], _ => rfl
  | v :: vs, h => by
    unfold wipeS
    rw [List.getElem?_set_ne fun z => h (by rw [z]; exact List.mem_cons_self), wipeS_out fun z => h (List.mem_cons_of_mem _ z)]
theorem wipeS_in {ρ : Rho} {i : Nat} {d : D} : ∀ {vs : List Nat}, i ∈ vs → (wipeS ρ vs)[i]? ≠ some (.ow d)
  | [], h => by cases h
  | v :: vs, h => by
    unfold wipeS
    rw [List.getElem?_set]
    split
    · split
      · intro z; cases z
      · intro z; cases z
    · rename_i hne
      rcases List.mem_cons.mp h with e | h
      · exact absurd e.symm hne
      · exact wipeS_in h
theorem backS_len (ρ0 ρ : Rho) : ∀ vs : List Nat, (backS ρ0 ρ vs).length = ρ.length
  | [] => rfl
  | v :: vs => by
    unfold backS
    split
    · rw [List.length_set, backS_len ρ0 ρ vs]
    · exact backS_len ρ0 ρ vs
theorem backS_out {ρ0 ρ : Rho} {i : Nat} : ∀ {vs : List Nat}, i ∉ vs → (backS ρ0 ρ vs)[i]? = ρ[i]?
  | [], _ => rfl
  | v :: vs, h => by
    unfold backS
    have ih := backS_out (ρ0 := ρ0) (ρ := ρ) (i := i) (vs := vs) fun z => h (List.mem_cons_of_mem _ z)
    split
    · rw [List.getElem?_set_ne fun z => h (by rw [z]; exact List.mem_cons_self), ih]
    · exact ih
theorem backS_in {ρ0 ρ : Rho} (hl : ρ0.length = ρ.length) {i : Nat} : ∀ {vs : List Nat}, i ∈ vs → (backS ρ0 ρ vs)[i]? = ρ0[i]?
  | [], h => by cases h
  | v :: vs, h => by
    unfold backS
    by_cases hv : v = i
    · subst hv
      split
      · rename_i s hs
        have : v < (backS ρ0 ρ vs).length := by
          rw [backS_len, ← hl]
          exact (List.getElem?_eq_some_iff.mp hs).1
        rw [List.getElem?_set_self this, hs]
      · rename_i hs
        have h1 : ρ0.length ≤ v := List.getElem?_eq_none_iff.mp hs
        rw [hs]
        exact List.getElem?_eq_none_iff.mpr (by rw [backS_len, ← hl]; exact h1)
    · have hi : i ∈ vs := (List.mem_cons.mp h).resolve_left fun z => hv z.symm
      split
      · rw [List.getElem?_set_ne hv, backS_in hl hi]
      · exact backS_in hl hi
section
variable {K : KM} {B : Bs} {σ σ2 : L2.St} {F F1 F2 F' H H1 H2 H' : Hp} {ρ ρ1 ρ2 ρ' : Rho} {v : V} {d : D} {vs : List Nat}
theorem Rel.wipe (h : Rel K B F H ρ σ) : ∀ {vs : List Nat}, (∀ v ∈ vs, B.np ≤ v) → Rel K B F H (wipeS ρ vs) (L2.wipe σ vs)
  | [], _ => h
  | v :: vs, hn => by
    unfold wipeS L2.wipe
    exact (h.wipe fun w hw => hn w (List.mem_cons_of_mem _ hw)).setUn (hn v List.mem_cons_self) none
theorem wipe_own {i : Nat} {p : Addr} (h : OwnAt (wipeS ρ vs) (L2.wipe σ vs) i p) : i ∉ vs ∧ OwnAt ρ σ i p := by
  obtain ⟨d, g1, g2⟩ := h
  have hi : i ∉ vs := fun z => wipeS_in z g1
  rw [wipeS_out hi] at g1
  rw [L2.wipe_out hi] at g2
  exact ⟨hi, d, g1, g2⟩
theorem wipe_same (h1 : σ2.length = σ.length) (h : ∀ i : Nat, i ∉ vs → σ2[i]? = (L2.wipe σ vs)[i]?) : L2.wipe σ2 vs = L2.wipe σ vs := by
  refine List.ext_getElem? fun i => ?_
  by_cases hi : i ∈ vs
  · have one : ∀ τ : L2.St, (L2.wipe τ vs)[i]? = if i < τ.length then some none else none := fun τ => by
      by_cases hl : i < τ.length
      · rw [if_pos hl]
        have hl' : i < (L2.wipe τ vs).length := by rw [L2.wipe_length]; exact hl
        rw [List.getElem?_eq_getElem hl']
        cases e : (L2.wipe τ vs)[i] with
        | none => rfl
        | some x =>
          have q := (L2.wipe_some (σ := τ) (i := i) (x := x) (vs := vs) (by rw [List.getElem?_eq_getElem hl', e])).2
          exact absurd hi q
      · rw [if_neg hl]
        exact List.getElem?_eq_none_iff.mpr (by rw [L2.wipe_length]; omega)
    rw [one, one, h1]
  · rw [L2.wipe_out hi, h i hi]
/-- the state between two turns of a comprehension that began at F1, H1, ρ1, σ -/
structure Lw (K : KM) (B : Bs) (vs : List Nat) (σ : L2.St) (F1 H1 : Hp) (ρ1 : Rho) (σ2 : L2.St) (F2 H2 : Hp) (ρ2 : Rho) : Prop where
  rel : Rel K B F2 H2 ρ2 σ2
  same : Same F1 F2
  pres : ∀ b o, H1 b = some o → (∀ i, ¬ OwnAt ρ1 σ i b) → H2 b = some o
  dom : ∀ b o, H1 b = some o → ∃ o', H2 b = some o'
  own : ∀ i p, OwnAt ρ2 σ2 i p → OwnAt ρ1 σ i p
  fr : ∀ b o, F1 b = none → H1 b = some o → (∀ i, ¬ OwnAt ρ1 σ i b) → F2 b = none
  live : ∀ i, i ∉ vs → Live ρ1 i → Live ρ2 i
theorem Lw.post (a : Lw K B vs σ F1 H1 ρ1 σ2 F H ρ) (b : Post K B σ2 F H ρ F2 H2 ρ2) : Lw K B vs σ F1 H1 ρ1 σ2 F2 H2 ρ2 where
  rel := b.rel
  same := a.same.trans b.same
  pres := fun c o e n => b.pres c o (a.pres c o e n) fun i q => n i (a.own i c q)
  dom := fun c o e => by
    obtain ⟨o', e'⟩ := a.dom c o e
    exact b.dom c o' e'
  own := fun i p q => a.own i p (b.own i p q)
  fr := fun c o e h n => b.fr c o (a.fr c o e h n) (a.pres c o h n) fun i q => n i (a.own i c q)
  live := fun i hi l => b.live i (a.live i hi l)
theorem Lw.bind {σ3 : L2.St} {l : List Nat} (a : Lw K B vs σ F1 H1 ρ1 σ2 F H ρ) (r : Rel K B F H ρ2 σ3) (s : Stay l ρ σ2 ρ2 σ3) (hl : ∀ i ∈ l, i ∈ vs) : Lw K B vs σ F1 H1 ρ1 σ3 F H ρ2 where
  rel := r
  same := a.same
  pres := a.pres
  dom := a.dom
  own := fun i p q => a.own i p (s.own i p q)
  fr := a.fr
  live := fun i hi q => by
    have := a.live i hi q
    unfold Live
    rw [(s.eq i fun z => hi (hl i z)).2]
    exact this
theorem Lw.wipe (a : Lw K B vs σ F1 H1 ρ1 σ2 F H ρ) (hn : ∀ v ∈ vs, B.np ≤ v) : Lw K B vs σ F1 H1 ρ1 (L2.wipe σ2 vs) F H (wipeS ρ vs) where
  rel := a.rel.wipe hn
  same := a.same
  pres := a.pres
  dom := a.dom
  own := fun i p q => a.own i p (wipe_own q).2
  fr := a.fr
  live := fun i hi q => by
    have := a.live i hi q
    unfold Live
    rw [wipeS_out hi]
    exact this
theorem Lw.start (r : Rel K B F1 H1 ρ1 σ) (hn : ∀ v ∈ vs, B.np ≤ v) : Lw K B vs σ F1 H1 ρ1 (L2.wipe σ vs) F1 H1 (wipeS ρ1 vs) where
  rel := r.wipe hn
  same := Same.refl _
  pres := fun _ _ e _ => e
  dom := fun _ o e => ⟨o, e⟩
  own := fun i p q => (wipe_own q).2
  fr := fun _ _ e _ _ => e
  live := fun i hi q => by
    unfold Live
    rw [wipeS_out hi]
    exact q
/-- a thing that is not of the beginning is written, or new -/
theorem Lw.put {p : Addr} {o' : HO} (a : Lw K B vs σ F1 H1 ρ1 σ2 F H ρ) (r1 : Rel K B F1 H1 ρ1 σ) (hp : H1 p = none) (hf : F p = none) : Lw K B vs σ F1 H1 ρ1 σ2 F (upd H p o') ρ := by
  have no : ∀ i, ¬ OwnAt ρ σ2 i p := fun i q => (r1.newFree hp).2 i (a.own i p q)
  have r' : Rel K B F (upd H p o') ρ σ2 := by
    cases e : H p with
    | none => exact (Post.new a.rel e).rel
    | some o => exact a.rel.write e hf no (r1.bfree hp)
  refine ⟨r', a.same, fun b x q n => ?_, fun b x q => ?_, a.own, a.fr, a.live⟩
  · rw [upd_ne (ne_of_none q hp)]
    exact a.pres b x q n
  · rw [upd_ne (ne_of_none q hp)]
    exact a.dom b x q
/-- the comprehension is left -/
theorem Lw.back (a : Lw K B vs σ F1 H1 ρ1 (L2.wipe σ vs) F2 H2 ρ2) (r1 : Rel K B F1 H1 ρ1 σ) (ho : ∀ v ∈ vs, isOw ρ1[v]? = false) : Post K B σ F1 H1 ρ1 F2 H2 (backS ρ1 ρ2 vs) := by
  have hl : ρ1.length = ρ2.length := by rw [r1.len, a.rel.len, L2.wipe_length]
  have ow' : ∀ i p, OwnAt (backS ρ1 ρ2 vs) σ i p → i ∉ vs ∧ OwnAt ρ2 (L2.wipe σ vs) i p := fun i p ⟨d, g1, g2⟩ => by
    have hi : i ∉ vs := fun z => by
      rw [backS_in hl z] at g1
      have := ho i z
      rw [g1] at this
      cases this
    rw [backS_out hi] at g1
    exact ⟨hi, d, g1, by rw [L2.wipe_out hi]; exact g2⟩
  have r := a.rel
  refine ⟨a.same, ⟨r.same, by rw [backS_len, r.len, L2.wipe_length], fun i => ?_, fun i j p x y => r.dis i j p (ow' i p x).2 (ow' j p y).2, r.sameB, r.pre, r.dom, r.frz, fun i p g x => r.loc i p g (ow' i p x).2, fun i p g x => r.par i p g (ow' i p x).2, r1.arg⟩, a.pres, a.dom, fun i p q => a.own i p (ow' i p q).2, a.fr, fun i q => ?_⟩
  · by_cases hi : i ∈ vs
    · rw [backS_in hl hi]
      have s := r1.sl i
      have n := ho i hi
      cases g : ρ1[i]? with
      | none => trivial
      | some w =>
        rw [g] at s n
        cases w with
        | un => trivial
        | fz d =>
          obtain ⟨v', q1, q2⟩ := s
          exact ⟨v', q1, Rp.mono a.same d v' q2⟩
        | ow d => cases n
    · rw [backS_out hi]
      have s := r.sl i
      rw [L2.wipe_out hi] at s
      exact s
  · by_cases hi : i ∈ vs
    · unfold Live
      rw [backS_in hl hi]
      exact q
    · have := a.live i hi q
      unfold Live
      rw [backS_out hi]
      exact this
end
/-! ### the tests of a comprehension -/
abbrev ifsRun (l : List Expr) (v : Env) : Sem Bool := forIn l true fun t q => if q = true then do let k ← isTrue t v (eval t v); pure (ForInStep.yield k) else pure (ForInStep.yield q)
def STs (B : Bs) (X : Cx) (ifs : List Expr) (m : Rho → R Bool) : Prop := ∀ F H ρ σ Q, Rel (km X) B F H ρ σ → (∃ b ρ', m ρ = .ok b ρ' ∧ ∀ F' H', Post (km X) B σ F H ρ F' H' ρ' → Q b H') →
  ∀ pins s, Inv X pins σ H s → wpAny (model X.prog X.w) X.A (ifsRun ifs X.env) (TP X pins σ Q) X.xe s
section
variable {B : Bs} {X : Cx} {e a b c tg iter elt : Expr} {ifs : List Expr} {pos p : Pos} {np : Nat} {cf : Nat → List Sl → CRes} {ca cb cc ct ci cel : C} {x : Str}
theorem sts_nil : STs B X [] (evT np cf .nil) := by
  intro F H ρ σ Q hr ⟨b, ρ', hm, k⟩ pins s I
  cases hm
  exact pts_nil.run pins s σ H Q I (k F H (Post.refl hr))
theorem sts_one (h : ST B X c (evT np cf cc)) : STs B X [c] (evT np cf cc) := by
  intro F H ρ σ Q hr hm pins s I
  exact (pts_one pt_gt).run pins s σ H Q I (h F H ρ σ Q hr hm)
/-- the context of a block -/
abbrev Blk (X : Cx) (scope : Scope) (s : Shared) (H : Hp) (C : Addr) (cl : List (Str × Addr)) (fp : List Addr) : Cx := X.blk s H scope (compEnvC scope cl C X.env) fp
def bG (X : Cx) (scope : Scope) (tg : Expr) : TG := fun v σ H Q => ∀ s0 H0 C cl fp, GG (Blk X scope s0 H0 C cl fp) tg v σ H Q
def bT (X : Cx) (scope : Scope) (ifs : List Expr) : TT := fun σ H Q => ∀ s0 H0 C cl fp pins s, Inv (Blk X scope s0 H0 C cl fp) pins σ H s → wpAny (model X.prog X.w) X.A (ifsRun ifs (compEnvC scope cl C X.env)) (TP (Blk X scope s0 H0 C cl fp) pins σ Q) (fun _ _ => False) s
def bE (X : Cx) (scope : Scope) (e : Expr) : TE := fun σ H Q => ∀ s0 H0 C cl fp, GE (Blk X scope s0 H0 C cl fp) e σ H Q
theorem pg_bG {scope : Scope} (s : Shared) (H : Hp) (C : Addr) (cl : List (Str × Addr)) (fp : List Addr) : PG (X.blk s H scope (compEnvC scope cl C X.env) fp) tg (bG X scope tg) := ⟨fun pins s' σ H v u Q I r h => (h _ _ _ _ _).run pins s' u I r⟩
theorem pts_bT {scope : Scope} (s : Shared) (H : Hp) (C : Addr) (cl : List (Str × Addr)) (fp : List Addr) : PTs (X.blk s H scope (compEnvC scope cl C X.env) fp) ifs (bT X scope ifs) := ⟨fun pins s' σ H Q I h => h _ _ _ _ _ pins s' I⟩
theorem pe_bE {scope : Scope} (s : Shared) (H : Hp) (C : Addr) (cl : List (Str × Addr)) (fp : List Addr) : PE (X.blk s H scope (compEnvC scope cl C X.env) fp) elt (bE X scope elt) := ⟨fun pins s' σ H Q I h => (h _ _ _ _ _).run pins s' I⟩
/-- [elt for tg in iter if ..], the list's reading -/
theorem lc_run {scope : Scope} {own : List (Str × Nat)} {vs : List Nat} (hc : X.calm = true) (hnp : np = B.np) (hi : SI B X tg iter (evI np cf ci)) (hv : own.map (·.2) = vs) (htg : ∀ i ∈ tgS ct, i ∈ vs)
    (hg : ∀ s H C cl fp, SG B (Blk X scope s H C cl fp) tg ct) (ht : ∀ s H C cl fp, STs B (Blk X scope s H C cl fp) ifs (evT np cf cc)) (he : ∀ s H C cl fp, SE B (Blk X scope s H C cl fp) elt (evE np cf cel))
    {F H : Hp} {ρ ρ' : Rho} {σ : L2.St} {r : RV} {Q : VK} (hr : Rel (km X) B F H ρ σ) (hm : evE np cf (.lc cel ct ci cc vs) ρ = .ok r ρ') (k : ∀ v F' H', Post (km X) B σ F H ρ F' H' ρ' → RvOk (km X) F' H' ρ' σ r v → Fresh H r v → Q v H') :
    tLc (GI X tg iter) (bG X scope tg) (bT X scope ifs) (bE X scope elt) (own.map (·.2)) σ H Q := by
  subst hnp
  rw [hv]
  obtain ⟨ds, ρ1, h1, m1⟩ := bind_ok hm
  split at m1
  · cases m1
  · rename_i hany
    obtain ⟨accF, ρ2, h2, m2⟩ := bind_ok m1
    cases m2
    have hn : ∀ v ∈ vs, B.np ≤ v ∧ isOw ρ1[v]? = false := fun v hv' => by
      have hany' : (vs.any fun v => isOw ρ1[v]? || decide (v < B.np)) = false := by
        cases q : (vs.any fun v => isOw ρ1[v]? || decide (v < B.np)) with
        | false => rfl
        | true => exact absurd q hany
      have := List.any_eq_false.mp hany' v hv'
      simp only [Bool.or_eq_true, decide_eq_true_eq, not_or] at this
      exact ⟨by omega, by simpa using this.1⟩
    refine hi F H ρ σ _ hr ⟨ds, ρ1, h1, fun J F1 H1 P1 it => ?_⟩
    have r1 := P1.rel
    intro Da hD
    refine ⟨fun i m Hh => m = ds.length - i ∧ i ≤ ds.length ∧ ∃ Fi ρi acc vacc, Lw (km X) B vs σ F1 H1 ρ1 (L2.wipe σ vs) Fi Hh ρi ∧ Hh Da = some (.lst vacc) ∧ Fi Da = none ∧ RpL (km X) Fi acc vacc ∧
        lcL (bindT B.np ct) (evT B.np cf cc) (evE B.np cf cel) vs (ds.drop i) acc ρi = .ok accF ρ2, ⟨ds.length, by simp, Nat.zero_le _, F1, wipeS ρ1 vs, [], [], ?_, upd_same, (r1.newFree hD).1, rfl, h2⟩, ?_⟩
    · exact (Lw.start r1 fun v hv' => (hn v hv').1).put r1 hD (r1.newFree hD).1
    · rintro i m Hh ⟨rfl, hle, Fi, ρi, acc, vacc, L, hDa, hFa, hacc, hrest⟩
      by_cases hlt : i < ds.length
      · right
        refine ⟨it.go i Hh (L.same.trans L.rel.same) hlt, fun H' => ∃ Fi ρi acc vacc, Lw (km X) B vs σ F1 H1 ρ1 (L2.wipe σ vs) Fi H' ρi ∧ H' Da = some (.lst vacc) ∧ Fi Da = none ∧ RpL (km X) Fi acc vacc ∧
          lcL (bindT B.np ct) (evT B.np cf cc) (evE B.np cf cel) vs (ds.drop (i + 1)) acc ρi = .ok accF ρ2, fun H' hN => ⟨ds.length - (i + 1), by omega, rfl, hlt, hN⟩, fun x H' hy => ?_⟩
        obtain ⟨d, hd, yok⟩ := it.yld i Hh x H' (L.same.trans L.rel.same) hy hlt
        obtain ⟨F2, P2, qx⟩ := yok.step L.same L.rel
        have L2' := L.post P2
        rw [List.drop_eq_getElem_cons hlt] at hrest
        rw [List.getElem?_eq_getElem hlt] at hd
        cases hd
        unfold lcL at hrest
        have noD : ∀ {ρx : Rho} {σx : L2.St} {Fx Hx : Hp}, Lw (km X) B vs σ F1 H1 ρ1 σx Fx Hx ρx → ∀ j, ¬ OwnAt ρx σx j Da := fun Lx j q => (r1.newFree hD).2 j (Lx.own j Da q)
        have hDa2 : H' Da = some (.lst vacc) := P2.pres Da _ hDa (noD L)
        have hFa2 : F2 Da = none := P2.fr Da _ hFa hDa (noD L)
        split at hrest
        · cases hrest
        · rename_i ρ3 hb
          obtain ⟨bb, ρ4, t1, hrest⟩ := bind_ok hrest
          intro s0 H0 C cl fp
          refine hg s0 H0 C cl fp F2 H' ρi (L2.wipe σ vs) x _ ρ3 _ L2'.rel qx hb fun σ3 r3 st3 => ?_
          have L3 := L2'.bind r3 st3 htg
          have hw : L2.wipe σ3 vs = L2.wipe σ vs := wipe_same (by rw [st3.len, L2.wipe_length]) fun j hj => (st3.eq j fun z => hj (htg j z)).1
          refine ⟨hw, fun s0 H0 C cl fp pins s I => ?_⟩
          refine ht s0 H0 C cl fp F2 H' ρ3 σ3 _ r3 ⟨bb, ρ4, t1, fun F4 H4 P4 => ?_⟩ pins s I
          have L4 := L3.post P4
          have hDa4 : H4 Da = some (.lst vacc) := P4.pres Da _ hDa2 (noD L3)
          have hFa4 : F4 Da = none := P4.fr Da _ hFa2 hDa2 (noD L3)
          have hacc4 : RpL (km X) F4 acc vacc := RpL.mono (P2.same.trans P4.same) acc vacc hacc
          cases bb with
          | false =>
            rw [if_neg Bool.false_ne_true]
            have L5 := L4.wipe fun v hv' => (hn v hv').1
            rw [hw] at L5
            exact ⟨F4, wipeS ρ4 vs, acc, vacc, L5, hDa4, hFa4, hacc4, hrest⟩
          | true =>
            rw [if_pos rfl]
            have hrest : (evE B.np cf cel ρ4).bind (fun r ρ3 => (toFz ρ3 r).bind fun y ρ4 => if acc.length < maxLen then lcL (bindT B.np ct) (evT B.np cf cc) (evE B.np cf cel) vs (ds.drop (i + 1)) (acc ++ [y]) (wipeS ρ4 vs) else .fail) = .ok accF ρ2 := hrest
            obtain ⟨ry, ρ5, e1, hrest⟩ := bind_ok hrest
            obtain ⟨y, ρ6, e2, hrest⟩ := bind_ok hrest
            split at hrest
            · rename_i hlen
              intro s0 H0 C cl fp
              refine (he s0 H0 C cl fp).sd F4 H4 ρ4 σ3 _ L4.rel ⟨y, ρ6, by show (evE B.np cf cel ρ4).bind _ = _; rw [e1]; exact e2, fun vy F6 H6 P6 qy => ?_⟩
              have L6 := L4.post P6
              have hDa6 : H6 Da = some (.lst vacc) := P6.pres Da _ hDa4 (noD L4)
              have hFa6 : F6 Da = none := P6.fr Da _ hFa4 hDa4 (noD L4)
              refine ⟨vacc, hDa6, ?_, ?_⟩
              · rw [hacc.length, sizeLine_eq]
                unfold maxLen at hlen
                omega
              · have L7 := (L6.put (p := Da) (o' := .lst (vacc ++ [vy])) r1 hD hFa6).wipe fun v hv' => (hn v hv').1
                rw [hw] at L7
                exact ⟨F6, wipeS ρ6 vs, acc ++ [y], vacc ++ [vy], L7, upd_same, hFa6, (RpL.mono P6.same acc vacc hacc4).append (RpL.one qy), hrest⟩
            · cases hrest
      · left
        have ei : i = ds.length := by omega
        refine ⟨it.stop i Hh (L.same.trans L.rel.same) (by omega), ?_⟩
        rw [ei, List.drop_length] at hrest
        cases hrest
        have PB := L.back r1 fun v hv' => (hn v hv').2
        refine k _ Fi Hh (P1.trans PB) ⟨Da, _, rfl, hDa, hFa, ⟨vacc, rfl, hacc⟩, fun j q => (r1.newFree hD).2 j (PB.own j Da q)⟩ ?_
        exact Fresh.back P1 (r := .ow _) fun p' e => by cases e; exact hD
theorem se_lc {scope : Scope} {own : List (Str × Nat)} {vs : List Nat} (hc : X.calm = true) (hN : X.N.Nodup) (hnp : np = B.np) (hi : SI B X tg iter (evI np cf ci)) (ok : BlkOk X.N X.env.scope scope own) (hv : own.map (·.2) = vs) (htg : ∀ i ∈ tgS ct, i ∈ vs)
    (hg : ∀ s H C cl fp, SG B (Blk X scope s H C cl fp) tg ct) (ht : ∀ s H C cl fp, STs B (Blk X scope s H C cl fp) ifs (evT np cf cc)) (he : ∀ s H C cl fp, SE B (Blk X scope s H C cl fp) elt (evE np cf cel)) (hs : ∀ x, foldedSetIterable iter X.env x = pure x) :
    SE B X (.ListComp elt [⟨tg, iter, ifs, 0⟩] scope pos) (evE np cf (.lc cel ct ci cc vs)) := by
  intro F H ρ σ Q hr ⟨r, ρ', hm, k⟩
  refine ge_of (pe_lc hc hN pi_gi ok pg_bG pts_bT pe_bE hs) ?_
  exact lc_run hc hnp hi hv htg hg ht he hr hm k
end
end PV

/-! PvS6: statements. -/
namespace PV
open PySem L2
structure GS (X : Cx) (st : Stmt) (D : Ends) (σ : L2.St) (H : Hp) : Prop where
  run : ∀ pins s, Inv X pins σ H s → wpAny (model X.prog X.w) X.A (exec st X.env) (SP X pins D) X.xe s
structure GSs (X : Cx) (st : List Stmt) (D : Ends) (σ : L2.St) (H : Hp) : Prop where
  run : ∀ pins s, Inv X pins σ H s → wpAny (model X.prog X.w) X.A (execs st X.env) (SP X pins D) X.xe s
section
variable {X : Cx} {st : Stmt} {sts : List Stmt} {σ : L2.St} {H : Hp} {E : Ends}
theorem ps_gs : PS X st (GS X st) := ⟨fun pins s σ H D I h => h.run pins s I⟩
theorem pss_gss : PSs X sts (GSs X sts) := ⟨fun pins s σ H D I h => h.run pins s I⟩
theorem gs_of {t : TS} (h : PS X st t) (q : t E σ H) : GS X st E σ H := ⟨fun pins s I => h.run pins s σ H E I q⟩
theorem gss_of {t : TS} (h : PSs X sts t) (q : t E σ H) : GSs X sts E σ H := ⟨fun pins s I => h.run pins s σ H E I q⟩
end
/-- a value that is handed back -/
def RetOk (K : KM) (B : Bs) (F H : Hp) (ρ : Rho) (σ : L2.St) : RV → V → Prop
  | .fz d, v => Rp K F d v
  | .ow d, v => ∃ p o, v = .ref p ∧ H p = some o ∧ F p = none ∧ RpO K F p d o ∧ (∀ i, ¬ OwnAt ρ σ i p) ∧ B.H p = none
  | .bor _, _ => False
/-- what follows a statement -/
def Fin (K : KM) (B : Bs) (F : Hp) (E : Ends) : O → Prop
  | .next ρ' => ∀ σ' F' H', Same F F' → Rel K B F' H' ρ' σ' → E.nx σ' H'
  | .brk ρ' => ∀ σ' F' H', Same F F' → Rel K B F' H' ρ' σ' → E.bk σ' H'
  | .cont ρ' => ∀ σ' F' H', Same F F' → Rel K B F' H' ρ' σ' → E.ct σ' H'
  | .ret r ρ' => ∀ v σ' F' H', Same F F' → Rel K B F' H' ρ' σ' → RetOk K B F' H' ρ' σ' r v → E.rt v H'
  | .fail => False
theorem Fin.mono {K : KM} {B : Bs} {F F1 : Hp} {E : Ends} (s : Same F F1) : ∀ {o : O}, Fin K B F E o → Fin K B F1 E o
  | .next _, h => fun σ' F' H' q => h σ' F' H' (s.trans q)
  | .brk _, h => fun σ' F' H' q => h σ' F' H' (s.trans q)
  | .cont _, h => fun σ' F' H' q => h σ' F' H' (s.trans q)
  | .ret _ _, h => fun v σ' F' H' q => h v σ' F' H' (s.trans q)
  | .fail, h => h
def SS (B : Bs) (X : Cx) (st : Stmt) (m : Rho → O) : Prop := ∀ F H ρ σ E, Rel (km X) B F H ρ σ → Fin (km X) B F E (m ρ) → GS X st E σ H
def SSs (B : Bs) (X : Cx) (sts : List Stmt) (m : Rho → O) : Prop := ∀ F H ρ σ E, Rel (km X) B F H ρ σ → Fin (km X) B F E (m ρ) → GSs X sts E σ H
/-- a slot's word of a value that no name holds yet -/
def SvOk (K : KM) (B : Bs) (F H : Hp) (ρ : Rho) (σ : L2.St) : Sl → V → Prop
  | .fz d, v => Rp K F d v
  | .ow d, v => ∃ p o, v = .ref p ∧ H p = some o ∧ F p = none ∧ RpO K F p d o ∧ (∀ i, ¬ OwnAt ρ σ i p) ∧ B.H p = none
  | .un, _ => False
section
variable {K : KM} {B : Bs} {F H F1 H1 F2 H2 : Hp} {ρ ρ1 ρ2 : Rho} {σ : L2.St}
theorem SvOk.step (a : Post K B σ F1 H1 ρ1 F2 H2 ρ2) : ∀ {s : Sl} {v : V}, SvOk K B F1 H1 ρ1 σ s v → SvOk K B F2 H2 ρ2 σ s v
  | .fz d, v, h => Rp.mono a.same d v h
  | .ow d, v, h => by
    obtain ⟨p, o, rfl, h1, h2, h3, h4, h5⟩ := h
    exact ⟨p, o, rfl, a.pres p o h1 h4, a.fr p o h2 h1 h4, h3.mono a.same, fun i q => h4 i (a.own i p q), h5⟩
  | .un, _, h => h.elim
theorem settle_ok {r : RV} {s : Sl} {v : V} (h : Rel K B F1 H1 ρ1 σ) (q : RvOk K F1 H1 ρ1 σ r v) (hB : ∀ d p, r = .ow d → v = .ref p → B.H p = none) (e : settle ρ1 r = .ok s ρ2) : Lk H1 fun H2 => ∃ F2, Post K B σ F1 H1 ρ1 F2 H2 ρ2 ∧ SvOk K B F2 H2 ρ2 σ s v := by
  cases r with
  | ow d =>
    cases e
    obtain ⟨p, o, rfl, h1, h2, h3, h4⟩ := q
    exact .inl ⟨F1, Post.refl h, p, o, rfl, h1, h2, h3, h4, hB d p rfl rfl⟩
  | fz d =>
    cases e
    exact .inl ⟨F1, Post.refl h, q⟩
  | bor i =>
    obtain ⟨d, ρ3, e1, e2⟩ := bind_ok (show (toFz ρ1 (.bor i)).bind (fun d ρ => R.ok (Sl.fz d) ρ) = .ok s ρ2 from e)
    cases e2
    exact (Post.refl h).toFz h q trivial e1
theorem SvOk.put {s : Sl} {v : V} {i : Nat} (h : Rel K B F H ρ σ) (q : SvOk K B F H ρ σ s v) (hn : B.np ≤ i) (hi : i < ρ.length) : Rel K B F H (ρ.set i s) (σ.set i (some v)) := by
  cases s with
  | un => exact q.elim
  | fz d => exact h.setFz hn hi q
  | ow d =>
    obtain ⟨p, o, rfl, g1, g2, g3, g4, g5⟩ := q
    exact h.setOw hn hi g1 g2 g3 g4 g5
/-- another value's word behind a store -/
theorem SvOk.other {s1 s2 : Sl} {v1 v2 : V} {i : Nat} (hi : i < ρ.length) (hl : ρ.length = σ.length) (hne : ∀ d1 d2, s1 = .ow d1 → s2 = .ow d2 → v1 ≠ v2) (q : SvOk K B F H ρ σ s2 v2) : SvOk K B F H (ρ.set i s1) (σ.set i (some v1)) s2 v2 := by
  cases s2 with
  | un => exact q
  | fz d => exact q
  | ow d =>
    obtain ⟨p, o, rfl, g1, g2, g3, g4, g5⟩ := q
    refine ⟨p, o, rfl, g1, g2, g3, fun j ⟨d', e1, e2⟩ => ?_, g5⟩
    by_cases hj : j = i
    · subst hj
      rw [List.getElem?_set_self hi] at e1
      rw [List.getElem?_set_self (by rw [← hl]; exact hi)] at e2
      cases e1
      cases e2
      exact hne d' d rfl rfl rfl
    · rw [List.getElem?_set_ne (Ne.symm hj)] at e1 e2
      exact g4 j ⟨d', e1, e2⟩
end
section
variable {B : Bs} {X : Cx} {e a b c tg iter : Expr} {pos pos' : Pos} {cf : Nat → List Sl → CRes} {ca cb cc ct ci : C} {x : Str} {st : Stmt} {sts body : List Stmt}
theorem ss_never {st : Stmt} : SS B X st (evS B.np cf .sNever) := fun _ _ _ _ _ _ h => h.elim
theorem ss_pass : SS B X (.Pass pos) (evS B.np cf .sPass) := by
  intro F H ρ σ E hr h
  exact gs_of ps_pass (h σ F H (Same.refl F) hr)
theorem sss_nil : SSs B X [] (evSs B.np cf .nil) := by
  intro F H ρ σ E hr h
  exact gss_of pss_nil (h σ F H (Same.refl F) hr)
theorem sss_cons (h1 : SS B X st (evS B.np cf ca)) (h2 : SSs B X sts (evSs B.np cf cb)) : SSs B X (st :: sts) (evSs B.np cf (.cons ca cb)) := by
  intro F H ρ σ E hr h
  refine gss_of (pss_cons ps_gs pss_gss) ?_
  have h : Fin (km X) B F E (match evS B.np cf ca ρ with | .next ρ => evSs B.np cf cb ρ | o => o) := h
  refine h1 F H ρ σ _ hr ?_
  cases q : evS B.np cf ca ρ with
  | next ρ1 =>
    rw [q] at h
    intro σ' F' H' s r
    exact h2 F' H' ρ1 σ' E r (Fin.mono s h)
  | ret r ρ1 => rw [q] at h; exact h
  | brk ρ1 => rw [q] at h; exact h
  | cont ρ1 => rw [q] at h; exact h
  | fail => rw [q] at h; exact h
theorem ss_expr (he : SE B X e (evE B.np cf ca)) (hs : swapsWith e none pos.line X.env = pure false) : SS B X (.Expr e pos) (evS B.np cf (.sExpr ca)) := by
  intro F H ρ σ E hr h
  have h : Fin (km X) B F E (match evE B.np cf ca ρ with | .ok _ ρ => .next ρ | .fail => .fail) := h
  cases q : evE B.np cf ca ρ with
  | fail => rw [q] at h; exact h.elim
  | ok r ρ1 =>
    rw [q] at h
    refine gs_of (ps_expr pe_ge hs) (he F H ρ σ _ hr ⟨r, ρ1, q, fun v F1 H1 P _ _ => ?_⟩)
    exact h σ F1 H1 P.same P.rel
/-- what a name's store does -/
theorem asg_run {i : Nat} {E : Ends} {F H F1 H1 : Hp} {ρ ρ1 : Rho} {σ : L2.St} {r : RV} {v : V} (hr : Rel (km X) B F H ρ σ) (P : Post (km X) B σ F H ρ F1 H1 ρ1) (q : RvOk (km X) F1 H1 ρ1 σ r v) (f : Fresh H r v) (h : Fin (km X) B F E (asgN B.np i r ρ1)) : Lk H1 fun H2 => E.nx (σ.set i (some v)) H2 := by
  unfold asgN at h
  split at h
  · rename_i s ρ2 hz
    split at h
    · rename_i ρ3 hset
      obtain ⟨h1, h2, rfl⟩ := setSl_some hset
      exact (settle_ok P.rel q (fun d p e1 e2 => by subst e1; exact hr.bfree (f p e2)) hz).imp fun H2 ⟨F2, P2, q2⟩ => h _ F2 H2 (P.same.trans P2.same) (q2.put P2.rel h1 h2)
    · exact h.elim
  · exact h.elim
/-- .. of a new thing -/
theorem asg_runO {i : Nat} {E : Ends} {F H F1 H1 : Hp} {ρ ρ1 : Rho} {σ : L2.St} {d : D} {v : V} (hr : Rel (km X) B F H ρ σ) (P : Post (km X) B σ F H ρ F1 H1 ρ1) (q : RvOk (km X) F1 H1 ρ1 σ (.ow d) v) (f : Fresh H (.ow d) v) (h : Fin (km X) B F E (asgN B.np i (.ow d) ρ1)) : E.nx (σ.set i (some v)) H1 := by
  unfold asgN at h
  split at h
  · rename_i s ρ2 hz
    cases hz
    split at h
    · rename_i ρ3 hset
      obtain ⟨h1, h2, rfl⟩ := setSl_some hset
      obtain ⟨p, o, rfl, g1, g2, g3, g4⟩ := q
      exact h _ F1 H1 P.same (SvOk.put (s := .ow d) P.rel ⟨p, o, rfl, g1, g2, g3, g4, hr.bfree (f p rfl)⟩ h1 h2)
    · exact h.elim
  · exact h.elim
theorem lc_ow {ρ ρ1 : Rho} {np : Nat} {elt tg it ifs : C} {vs : List Nat} {r : RV} (h : evE np cf (.lc elt tg it ifs vs) ρ = .ok r ρ1) : ∃ d, r = .ow d := by
  obtain ⟨ds, ρ2, h1, m1⟩ := bind_ok h
  split at m1
  · cases m1
  · obtain ⟨acc, ρ3, h2, m2⟩ := bind_ok m1
    cases m2
    exact ⟨_, rfl⟩
theorem ss_set {i : Nat} (hN : X.N.Nodup) (hi : X.N[i]? = some x) (hx : Loc X.env.scope x) (hs : swapsWith e (some (.Name x pos')) pos.line X.env = pure false) (hf : X.fn x = true ∨ X.env.scope.names.lookup x = some .local) (he : SE B X e (evE B.np cf ca)) :
    SS B X (.Assign [.Name x pos'] e pos) (evS B.np cf (.sAsg (.tName i) ca)) := by
  intro F H ρ σ E hr h
  have h : Fin (km X) B F E (match evE B.np cf ca ρ with | .ok r ρ => asgN B.np i r ρ | .fail => .fail) := h
  cases q : evE B.np cf ca ρ with
  | fail => rw [q] at h; exact h.elim
  | ok r ρ1 =>
    rw [q] at h
    refine gs_of (ps_set hN hi hx pe_ge hs hf) (GE.lk (he F H ρ σ _ hr ⟨r, ρ1, q, fun v F1 H1 P q f => ?_⟩))
    exact asg_run hr P q f h
/-- name = [..] on one line, the name a local -/
theorem ss_setLc {i : Nat} {elt : Expr} {ifs : List Expr} {scope : Scope} {own : List (Str × Nat)} {vs : List Nat} {py spos : Pos} {cel : C} (hc : X.calm = true) (hN : X.N.Nodup) (hy : X.N[i]? = some x) (hyl : X.env.scope.names.lookup x = some .local)
    (hsw : swapsWith (.ListComp elt [⟨tg, iter, ifs, 0⟩] scope pos) (some (.Name x py)) spos.line X.env = pure true) (hi : SI B X tg iter (evI B.np cf ci)) (ok : BlkOk X.N X.env.scope scope own) (hv : own.map (·.2) = vs) (htg : ∀ i ∈ tgS ct, i ∈ vs)
    (hg : ∀ s H C cl fp, SG B (Blk X scope s H C cl fp) tg ct) (ht : ∀ s H C cl fp, STs B (Blk X scope s H C cl fp) ifs (evT B.np cf cc)) (he : ∀ s H C cl fp, SE B (Blk X scope s H C cl fp) elt (evE B.np cf cel)) (hs : ∀ x, foldedSetIterable iter X.env x = pure x) :
    SS B X (.Assign [.Name x py] (.ListComp elt [⟨tg, iter, ifs, 0⟩] scope pos) spos) (evS B.np cf (.sAsg (.tName i) (.lc cel ct ci cc vs))) := by
  intro F H ρ σ E hr h
  have h : Fin (km X) B F E (match evE B.np cf (.lc cel ct ci cc vs) ρ with | .ok r ρ => asgN B.np i r ρ | .fail => .fail) := h
  cases q : evE B.np cf (.lc cel ct ci cc vs) ρ with
  | fail => rw [q] at h; exact h.elim
  | ok r ρ1 =>
    rw [q] at h
    refine gs_of (ps_setLc hc hN hy hyl hsw pi_gi ok pg_bG pts_bT pe_bE hs) ?_
    obtain ⟨d, rfl⟩ := lc_ow q
    exact lc_run hc rfl hi hv htg hg ht he hr q fun v F1 H1 P q f => asg_runO hr P q f h
/-- (a, b) = value -/
theorem ss_asg (hne : ∀ i, ct ≠ .tName i) (hs : swapsWithSole [tg] e pos.line X.env = pure false) (hw : swappedStores [tg] e X.env = pure none) (h1 : (assignEach [tg] X.env).map (·.2) = [assign tg X.env]) (he : SE B X e (evE B.np cf ca)) (hg : SG B X tg ct) :
    SS B X (.Assign [tg] e pos) (evS B.np cf (.sAsg ct ca)) := by
  intro F H ρ σ E hr h
  have h : Fin (km X) B F E (match evE B.np cf ca ρ with | .ok r ρ => (match toFz ρ r with | .ok d ρ => (match bindT B.np ct d ρ with | some ρ => .next ρ | none => .fail) | .fail => .fail) | .fail => .fail) := by
    cases ct <;> first | exact absurd rfl (hne _) | exact h
  cases q : evE B.np cf ca ρ with
  | fail => rw [q] at h; exact h.elim
  | ok r ρ1 =>
    rw [q] at h
    cases z : toFz ρ1 r with
    | fail => simp only [z] at h; exact h.elim
    | ok d ρ2 =>
      simp only [z] at h
      refine gs_of (ps_asg pe_ge pg_gg hs hw h1) (he.sd F H ρ σ _ hr ⟨d, ρ2, by show (evE B.np cf ca ρ).bind _ = _; rw [q]; exact z, fun v F2 H1 P2 q2 => ?_⟩)
      cases y : bindT B.np ct d ρ2 with
      | none => rw [y] at h; exact h.elim
      | some ρ3 =>
        rw [y] at h
        exact hg F2 H1 ρ2 σ v d ρ3 _ P2.rel q2 y fun σ' r' _ => h σ' F2 H1 P2.same r'
/-- two stores, one behind the other -/
theorem par_run {i j : Nat} {E : Ends} {F H F1 H1 F2 H2 : Hp} {ρ ρ1 ρ2 : Rho} {σ : L2.St} {r1 r2 : RV} {v w : V} (hr : Rel (km X) B F H ρ σ) (P1 : Post (km X) B σ F H ρ F1 H1 ρ1) (q1 : RvOk (km X) F1 H1 ρ1 σ r1 v) (f1 : Fresh H r1 v)
    (P2 : Post (km X) B σ F1 H1 ρ1 F2 H2 ρ2) (q2 : RvOk (km X) F2 H2 ρ2 σ r2 w) (f2 : Fresh H1 r2 w)
    (h : Fin (km X) B F E (match settle ρ2 r1 with
        | .ok sx ρ => (match settle ρ r2 with
          | .ok sy ρ => (match (setSl B.np i sx ρ).bind (setSl B.np j sy) with | some ρ => .next ρ | none => .fail)
          | .fail => .fail)
        | .fail => .fail)) : Lk H2 fun H3 => Lk H3 fun H4 => ∃ F5 ρ5 s1 s2, Same F F5 ∧ Rel (km X) B F5 H4 ρ5 σ ∧ SvOk (km X) B F5 H4 ρ5 σ s1 v ∧ SvOk (km X) B F5 H4 ρ5 σ s2 w ∧ B.np ≤ i ∧ i < ρ5.length ∧ B.np ≤ j ∧ j < ρ5.length ∧ (∀ d1 d2, s1 = .ow d1 → s2 = .ow d2 → v ≠ w) ∧
          Fin (km X) B F E (.next ((ρ5.set i s1).set j s2)) := by
  have q1' := q1.step P2
  cases z1 : settle ρ2 r1 with
  | fail => simp only [z1] at h; exact h.elim
  | ok s1 ρ3 =>
    simp only [z1] at h
    refine (settle_ok P2.rel q1' (fun d p e1 e2 => by subst e1; exact hr.bfree (f1 p e2)) z1).imp fun H3 ⟨F3, P3, g1⟩ => ?_
    have q2' := q2.step P3
    cases z2 : settle ρ3 r2 with
    | fail => simp only [z2] at h; exact h.elim
    | ok s2 ρ4 =>
      simp only [z2] at h
      refine (settle_ok P3.rel q2' (fun d p e1 e2 => by subst e1; exact P1.rel.bfree (f2 p e2)) z2).imp fun H4 ⟨F4, P4, g2⟩ => ?_
      cases z3 : (setSl B.np i s1 ρ4).bind (setSl B.np j s2) with
      | none => simp only [z3] at h; exact h.elim
      | some ρ5 =>
        simp only [z3] at h
        obtain ⟨ρ6, y1, y2⟩ := obind_some z3
        obtain ⟨a1, a2, a3⟩ := setSl_some y1
        obtain ⟨b1, b2, b3⟩ := setSl_some y2
        subst a3
        subst b3
        rw [List.length_set] at b2
        refine ⟨F4, ρ4, s1, s2, ((P1.same.trans P2.same).trans P3.same).trans P4.same, P4.rel, g1.step P4, g2, a1, a2, b1, b2, fun d1 d2 e1 e2 ev => ?_, h⟩
        subst e1
        subst e2
        have e1 : r1 = .ow d1 := by
          cases r1 with
          | ow d => cases z1; rfl
          | fz d => cases z1
          | bor k =>
            obtain ⟨_, _, _, e⟩ := bind_ok (show (toFz ρ2 (.bor k)).bind (fun d ρ => R.ok (Sl.fz d) ρ) = .ok (.ow d1) ρ3 from z1)
            cases e
        have e2 : r2 = .ow d2 := by
          cases r2 with
          | ow d => cases z2; rfl
          | fz d => cases z2
          | bor k =>
            obtain ⟨_, _, _, e⟩ := bind_ok (show (toFz ρ3 (.bor k)).bind (fun d ρ => R.ok (Sl.fz d) ρ) = .ok (.ow d2) ρ4 from z2)
            cases e
        subst e1
        subst e2
        obtain ⟨p, o, rfl, h1, _⟩ := q1
        have := f2 p ev.symm
        rw [h1] at this
        cases this
theorem par_fin {i j : Nat} {E : Ends} {F F5 H : Hp} {ρ : Rho} {σ : L2.St} {s1 s2 : Sl} {v w : V} (sm : Same F F5) (hr : Rel (km X) B F5 H ρ σ) (q1 : SvOk (km X) B F5 H ρ σ s1 v) (q2 : SvOk (km X) B F5 H ρ σ s2 w) (h1 : B.np ≤ i) (h2 : i < ρ.length) (h3 : B.np ≤ j) (h4 : j < ρ.length)
    (hne : ∀ d1 d2, s1 = .ow d1 → s2 = .ow d2 → v ≠ w) (h : Fin (km X) B F E (.next ((ρ.set i s1).set j s2))) : E.nx ((σ.set i (some v)).set j (some w)) H :=
  h _ F5 H sm ((q2.other h2 hr.len hne).put (q1.put hr h1 h2) h3 (by rw [List.length_set]; exact h4))
/-- a, b = e1, e2, both locals -/
theorem ss_par {i j : Nat} {y : Str} {px py pt pt2 : Pos} {kt k2} (hc : X.calm = true) (hN : X.N.Nodup) (hi : X.N[i]? = some x) (hj : X.N[j]? = some y) (hij : i ≠ j) (hx : X.env.scope.names.lookup x = some .local) (hy : X.env.scope.names.lookup y = some .local)
    (hw : swappedStores [.Tuple [.Name x px, .Name y py] kt pt] (.Tuple [a, b] k2 pt2) X.env = pure (some [x, y])) (hs : swapsWithSole [.Tuple [.Name x px, .Name y py] kt pt] (.Tuple [a, b] k2 pt2) pos.line X.env = pure false)
    (hs1 : starEach [a, b] X.env = (false, eval a X.env) :: starEach [b] X.env) (hs2 : starEach [b] X.env = (false, eval b X.env) :: starEach [] X.env) (ha : SE B X a (evE B.np cf ca)) (hb : SE B X b (evE B.np cf cb)) :
    SS B X (.Assign [.Tuple [.Name x px, .Name y py] kt pt] (.Tuple [a, b] k2 pt2) pos) (evS B.np cf (.sPar i j ca cb)) := by
  intro F H ρ σ E hr h
  have h : Fin (km X) B F E (match evE B.np cf ca ρ with
    | .ok x ρ => (match evE B.np cf cb ρ with
      | .ok y ρ => (match settle ρ x with
        | .ok sx ρ => (match settle ρ y with
          | .ok sy ρ => (match (setSl B.np i sx ρ).bind (setSl B.np j sy) with | some ρ => .next ρ | none => .fail)
          | .fail => .fail)
        | .fail => .fail)
      | .fail => .fail)
    | .fail => .fail) := h
  cases z1 : evE B.np cf ca ρ with
  | fail => simp only [z1] at h; exact h.elim
  | ok r1 ρ1 =>
    simp only [z1] at h
    cases z2 : evE B.np cf cb ρ1 with
    | fail => simp only [z2] at h; exact h.elim
    | ok r2 ρ2 =>
      simp only [z2] at h
      refine gs_of (ps_par hc hN hi hj hij hx hy pa_ga hw hs) (ga_two hs1 hs2 ?_)
      refine ha F H ρ σ _ hr ⟨r1, ρ1, z1, fun v F1 H1 P1 q1 f1 => ?_⟩
      refine GE.lk (GE.lk (hb F1 H1 ρ1 σ _ P1.rel ⟨r2, ρ2, z2, fun w F2 H2 P2 q2 f2 => ?_⟩))
      refine (par_run hr P1 q1 f1 P2 q2 f2 h).imp fun H3 k3 => k3.imp fun H4 ⟨F5, ρ5, s1, s2, sm, r5, g1, g2, a1, a2, b1, b2, hne, hF⟩ => ?_
      exact ⟨v, w, rfl, par_fin sm r5 g1 g2 a1 a2 b1 b2 hne hF⟩
/-- a, b = e1, e2, by a tuple that is dropped -/
theorem ss_parT {i j : Nat} {y : Str} {px py pt pt2 : Pos} {kt k2} (hc : X.calm = true) (hN : X.N.Nodup) (hi : X.N[i]? = some x) (hj : X.N[j]? = some y) (hx : Loc X.env.scope x) (hy : Loc X.env.scope y) (hfx : X.fn x = true ∨ X.env.scope.names.lookup x = some .local) (hfy : X.fn y = true ∨ X.env.scope.names.lookup y = some .local)
    (hw : swappedStores [.Tuple [.Name x px, .Name y py] kt pt] (.Tuple [a, b] k2 pt2) X.env = pure none) (hs : swapsWithSole [.Tuple [.Name x px, .Name y py] kt pt] (.Tuple [a, b] k2 pt2) pos.line X.env = pure false)
    (hs1 : starEach [a, b] X.env = (false, eval a X.env) :: starEach [b] X.env) (hs2 : starEach [b] X.env = (false, eval b X.env) :: starEach [] X.env) (ha : SE B X a (evE B.np cf ca)) (hb : SE B X b (evE B.np cf cb)) :
    SS B X (.Assign [.Tuple [.Name x px, .Name y py] kt pt] (.Tuple [a, b] k2 pt2) pos) (evS B.np cf (.sPar i j ca cb)) := by
  intro F H ρ σ E hr h
  have h : Fin (km X) B F E (match evE B.np cf ca ρ with
    | .ok x ρ => (match evE B.np cf cb ρ with
      | .ok y ρ => (match settle ρ x with
        | .ok sx ρ => (match settle ρ y with
          | .ok sy ρ => (match (setSl B.np i sx ρ).bind (setSl B.np j sy) with | some ρ => .next ρ | none => .fail)
          | .fail => .fail)
        | .fail => .fail)
      | .fail => .fail)
    | .fail => .fail) := h
  cases z1 : evE B.np cf ca ρ with
  | fail => simp only [z1] at h; exact h.elim
  | ok r1 ρ1 =>
    simp only [z1] at h
    cases z2 : evE B.np cf cb ρ1 with
    | fail => simp only [z2] at h; exact h.elim
    | ok r2 ρ2 =>
      simp only [z2] at h
      refine gs_of (ps_asg (pe_tup pa_ga) (pg_tup hc (pgs_cons (pg_name hN hi hx hfx) (pgs_cons (pg_name hN hj hy hfy) pgs_nil))) hs hw) (ga_two hs1 hs2 ?_)
      refine ha F H ρ σ _ hr ⟨r1, ρ1, z1, fun v F1 H1 P1 q1 f1 => ?_⟩
      refine GE.lk (GE.lk (hb F1 H1 ρ1 σ _ P1.rel ⟨r2, ρ2, z2, fun w F2 H2 P2 q2 f2 => ?_⟩))
      refine (par_run hr P1 q1 f1 P2 q2 f2 h).imp fun H3 k3 => k3.imp fun H4 ⟨F5, ρ5, s1, s2, sm, r5, g1, g2, a1, a2, b1, b2, hne, hF⟩ => ⟨by show 2 ≤ sizeLine; decide, fun T hT => ?_⟩
      have PT := Post.new (o := HO.tup [v, w]) r5 hT
      refine ⟨T, [v, w], rfl, SqT.of upd_same, rfl, v, [w], rfl, w, [], rfl, rfl, ?_⟩
      exact par_fin sm PT.rel (g1.step PT) (g2.step PT) a1 a2 b1 b2 hne hF
/-- what a name alone holds is written -/
theorem Rel.writeOwn {K : KM} {F H : Hp} {ρ : Rho} {σ : L2.St} {i : Nat} {p : Addr} {d d' : D} {o' : HO} (h : Rel K B F H ρ σ) (e : ρ[i]? = some (.ow d)) (es : σ[i]? = some (some (.ref p))) (q : RpO K F p d' o') : Rel K B F (upd H p o') (ρ.set i (.ow d')) σ := by
  have oi : OwnAt ρ σ i p := ⟨d, e, es⟩
  have hi : i < ρ.length := (List.getElem?_eq_some_iff.mp e).1
  have s := h.sl i
  rw [e, es] at s
  obtain ⟨p', o, e1, e2, e3, e4⟩ := s
  cases e1
  have ow' : ∀ j r, OwnAt (ρ.set i (.ow d')) σ j r → OwnAt ρ σ j r := fun j r ⟨d2, g1, g2⟩ => by
    by_cases hj : j = i
    · subst hj
      rw [es] at g2
      cases g2
      exact oi
    · rw [List.getElem?_set_ne (Ne.symm hj)] at g1
      exact ⟨d2, g1, g2⟩
  refine ⟨fun b x g => by rw [upd_ne (ne_of_none g e3)]; exact h.same b x g, by rw [List.length_set]; exact h.len, fun j => ?_, fun j k r a b => h.dis j k r (ow' j r a) (ow' k r b), h.sameB, fun b x g n => ?_, fun b x g => ?_, h.frz, fun j r g a => h.loc j r g (ow' j r a), fun j r g a => h.par j r g (ow' j r a), h.arg⟩
  · by_cases hj : j = i
    · subst hj
      rw [List.getElem?_set_self hi, es]
      exact ⟨p, o', rfl, upd_same, e3, q⟩
    · rw [List.getElem?_set_ne (Ne.symm hj)]
      have sj := h.sl j
      cases g : ρ[j]? with
      | none => trivial
      | some w =>
        rw [g] at sj
        cases w with
        | un => trivial
        | fz d2 => exact sj
        | ow d2 =>
          obtain ⟨p2, o2, q1, q2, q3, q4⟩ := sj
          exact ⟨p2, o2, q1, by rw [upd_ne fun z => hj (h.dis j i p ⟨d2, g, by rw [q1, z]⟩ oi)]; exact q2, q3, q4⟩
  · have hb : b ≠ p := fun z => by
      subst z
      by_cases hn : B.np ≤ i
      · rw [h.loc i b hn oi] at g
        cases g
      · exact n (h.par i b (by omega) oi)
    rw [upd_ne hb]
    exact h.pre b x g n
  · by_cases hb : b = p
    · subst hb
      exact ⟨o', upd_same⟩
    · rw [upd_ne hb]
      exact h.dom b x g
theorem putK_keys {κ : Type} [DecidableEq κ] {k : κ} {v : V} {ks : List κ} {kvs : List (κ × V)} (e : kvs.map (·.1) = ks) : (putK kvs k v).map (·.1) = putKk k ks := by
  subst e
  have ha : ((kvs.map (·.1)).any fun k2 => decide (k2 = k)) = kvs.any fun kv => decide (kv.1 = k) := by rw [List.any_map]; rfl
  unfold putK putKk
  rw [ha]
  split
  · rw [List.map_map]
    refine List.map_congr_left fun x _ => ?_
    show (if x.1 = k then (x.1, v) else x).1 = x.1
    split <;> rfl
  · rw [List.map_append]
    rfl
theorem putK_vals {κ : Type} [DecidableEq κ] {K : KM} {F : Hp} {k : κ} {v : V} {d : D} {ks : List κ} {l : List D} {kvs : List (κ × V)} (e : kvs.map (·.1) = ks) (q : RpL K F l (kvs.map (·.2))) (qv : Rp K F d v) : RpL K F (putKv k d ks l) ((putK kvs k v).map (·.2)) := by
  subst e
  have ha : ((kvs.map (·.1)).any fun k2 => decide (k2 = k)) = kvs.any fun kv => decide (kv.1 = k) := by rw [List.any_map]; rfl
  unfold putK putKv
  rw [ha]
  split
  · rename_i hany
    clear hany ha
    induction kvs generalizing l with
    | nil =>
      cases l with
      | nil => exact rfl
      | cons _ _ => obtain ⟨_, _, z, _⟩ := q; cases z
    | cons x kvs ih =>
      cases l with
      | nil => cases (show (x :: kvs).map (·.2) = [] from q)
      | cons d' l =>
        obtain ⟨v', r, hv, q1, q2⟩ := q
        cases hv
        refine ⟨(if x.1 = k then (x.1, v) else x).2, _, rfl, ?_, ih q2⟩
        split
        · exact qv
        · exact q1
  · rw [List.map_append]
    exact q.append (RpL.one qv)
/-- xs[i] = e -/
theorem ss_sub {o : Nat} {p2 p3 : Pos} (hu : X.A.units + 65 < cLine) (hsd : swapsWith e (some (.Subscript (.Name x p2) a p3)) pos.line X.env = pure false) (ho : X.N[o]? = some x) (hv : Vis X.env.scope x) (hd : (x == ("__debug__" : Str)) = false) (hcd : (x == ("__classdict__" : Str)) = false)
    (hs : swapsWithSole [.Subscript (.Name x p2) a p3] e pos.line X.env = pure false) (hw : swappedStores [.Subscript (.Name x p2) a p3] e X.env = pure none) (h1 : (assignEach [.Subscript (.Name x p2) a p3] X.env).map (·.2) = [assign (.Subscript (.Name x p2) a p3) X.env])
    (ha : ∀ v, assign (.Subscript (.Name x p2) a p3) X.env v = (do
      let ov ← holding [v] (eval (.Name x p2) X.env)
      let iv ← holding [v, ov] (eval a X.env)
      standAt p3
      holding [v, ov, iv] (setItem ov iv v)
      release [v, ov, iv] []))
    (he : SE B X e (evE B.np cf ca)) (hi : SE B X a (evE B.np cf cb)) : SS B X (.Assign [.Subscript (.Name x p2) a p3] e pos) (evS B.np cf (.sSub o cb ca)) := by
  intro F H ρ σ E hr h0
  have h : Fin (km X) B F E (match evE B.np cf ca ρ with
    | .ok r ρ => (match toFz ρ r with
      | .ok d ρ => if isOw ρ[o]? then (match evE B.np cf cb ρ with
        | .ok (.fz dk) ρ => subPut o dk d ρ[o]? ρ
        | _ => .fail) else .fail
      | .fail => .fail)
    | .fail => .fail) := h0
  clear h0
  cases z1 : evE B.np cf ca ρ with
  | fail => simp only [z1] at h; exact h.elim
  | ok r1 ρ1 =>
    simp only [z1] at h
    cases z2 : toFz ρ1 r1 with
    | fail => simp only [z2] at h; exact h.elim
    | ok d ρ2 =>
      simp only [z2] at h
      split at h
      · rename_i how
        split at h
        · rename_i dk ρ3 z3
          cases g3 : ρ3[o]? with
          | none => rw [g3] at h; exact h.elim
          | some w =>
            rw [g3] at h
            have stp : ∀ {F1 H1 : Hp}, Rel (km X) B F1 H1 ρ2 σ → ∃ p, σ[o]? = some (some (V.ref p)) := fun r => by
              have s0 := r.sl o
              cases g0 : ρ2[o]? with
              | none => rw [g0] at how; cases how
              | some w0 =>
                cases w0 with
                | un => rw [g0] at how; cases how
                | fz _ => rw [g0] at how; cases how
                | ow d0 =>
                  rw [g0] at s0
                  obtain ⟨p, o0, es, _⟩ := s0
                  exact ⟨p, es⟩
            have hsd' : ((evE B.np cf ca ρ).bind fun r ρ => toFz ρ r) = .ok d ρ2 := by rw [z1]; exact z2
            unfold subPut at h
            split at h
            · rename_i l el
              cases el
              split at h
              · rename_i k
                split at h
                · rename_i kk hk
                  refine gs_of (ps_asg pe_ge (pg_sub (pe_var ho hv hd hcd) pe_ge set_list ha) hs hw h1) ?_
                  refine he.sd F H ρ σ _ hr ⟨d, ρ2, hsd', fun v F1 H1 P1 q1 => ?_⟩
                  obtain ⟨p, es⟩ := stp P1.rel
                  refine ⟨.ref p, es, hi F1 H1 ρ2 σ _ P1.rel ⟨_, _, z3, fun vi F2 H2 P2 q2 _ => ?_⟩⟩
                  have s2 := P2.rel.sl o
                  rw [g3, es] at s2
                  obtain ⟨p', o2, e1, e2, e3, vs, e4, e5⟩ := s2
                  cases e1
                  subst e4
                  refine ⟨p, vs, k, kk, rfl, q2, e2, by rw [e5.length]; exact hk, ?_⟩
                  exact h σ F2 _ (P1.same.trans P2.same) (P2.rel.writeOwn g3 es ⟨_, rfl, e5.set kk (Rp.mono P2.same d v q1)⟩)
                · exact h.elim
              · exact h.elim
            · rename_i ks l el
              cases el
              split at h
              · rename_i k hk
                split at h
                · rename_i hlt
                  refine gs_of (ps_dput (by omega) (pe_var ho hv hd hcd) pe_ge pe_ge hsd) ?_
                  refine he.sd F H ρ σ _ hr ⟨d, ρ2, hsd', fun v F1 H1 P1 q1 => ?_⟩
                  obtain ⟨p, es⟩ := stp P1.rel
                  refine ⟨.ref p, es, hi F1 H1 ρ2 σ _ P1.rel ⟨_, _, z3, fun vi F2 H2 P2 q2 _ => ?_⟩⟩
                  have s2 := P2.rel.sl o
                  rw [g3, es] at s2
                  obtain ⟨p', o2, e1, e2, e3, kvs, e4, e5, e6⟩ := s2
                  cases e1
                  subst e4
                  have hl : kvs.length < sizeLine := by
                    have : kvs.length = ks.length := by rw [← e5, List.length_map]
                    exact Nat.lt_of_lt_of_le (by omega) (maxLen_le (Nat.le_refl maxLen))
                  refine ⟨p, _, rfl, .inl ⟨kvs, k, e2, key_v (H := H2) hk (.inl q2), hl, rfl⟩, ?_⟩
                  exact h σ F2 _ (P1.same.trans P2.same) (P2.rel.writeOwn g3 es ⟨_, rfl, putK_keys e5, putK_vals e5 e6 (Rp.mono P2.same d v q1)⟩)
                · exact h.elim
              · exact h.elim
            · rename_i ks l el
              cases el
              split at h
              · rename_i k hk
                split at h
                · rename_i hlt
                  refine gs_of (ps_dput (by omega) (pe_var ho hv hd hcd) pe_ge pe_ge hsd) ?_
                  refine he.sd F H ρ σ _ hr ⟨d, ρ2, hsd', fun v F1 H1 P1 q1 => ?_⟩
                  obtain ⟨p, es⟩ := stp P1.rel
                  refine ⟨.ref p, es, hi F1 H1 ρ2 σ _ P1.rel ⟨_, _, z3, fun vi F2 H2 P2 q2 _ => ?_⟩⟩
                  have s2 := P2.rel.sl o
                  rw [g3, es] at s2
                  obtain ⟨p', o2, e1, e2, e3, kvs, e4, e5, e6⟩ := s2
                  cases e1
                  subst e4
                  have hl : kvs.length < sizeLine := by
                    have : kvs.length = ks.length := by rw [← e5, List.length_map]
                    exact Nat.lt_of_lt_of_le (by omega) (maxLen_le (Nat.le_refl maxLen))
                  obtain ⟨b, rfl, eb⟩ := keyT_v P2.rel.same hk (.inl q2)
                  refine ⟨p, _, rfl, .inr ⟨kvs, k, b, e2, rfl, eb, hl, rfl⟩, ?_⟩
                  exact h σ F2 _ (P1.same.trans P2.same) (P2.rel.writeOwn g3 es ⟨_, rfl, putK_keys e5, putK_vals e5 e6 (Rp.mono P2.same d v q1)⟩)
                · exact h.elim
              · exact h.elim
            · exact h.elim
        · exact h.elim
      · exact h.elim
theorem ss_if {cb1 cb2 : C} {s1 s2 : List Stmt} (hc : ST B X c (evT B.np cf cc)) (h1 : SSs B X s1 (evSs B.np cf cb1)) (h2 : SSs B X s2 (evSs B.np cf cb2)) : SS B X (.If c s1 s2 pos) (evS B.np cf (.sIf cc cb1 cb2)) := by
  intro F H ρ σ E hr h
  have h : Fin (km X) B F E (match evT B.np cf cc ρ with | .ok k ρ => if k then evSs B.np cf cb1 ρ else evSs B.np cf cb2 ρ | .fail => .fail) := h
  cases z1 : evT B.np cf cc ρ with
  | fail => simp only [z1] at h; exact h.elim
  | ok k ρ1 =>
    simp only [z1] at h
    refine gs_of (ps_if pt_gt pss_gss pss_gss) (hc F H ρ σ _ hr ⟨k, ρ1, z1, fun F1 H1 P => ?_⟩)
    cases k with
    | true =>
      rw [if_pos rfl] at h ⊢
      exact h1 F1 H1 ρ1 σ E P.rel (Fin.mono P.same h)
    | false =>
      rw [if_neg Bool.false_ne_true] at h ⊢
      exact h2 F1 H1 ρ1 σ E P.rel (Fin.mono P.same h)
theorem ret_run {E : Ends} {F H F1 H1 : Hp} {ρ ρ1 : Rho} {σ : L2.St} {r : RV} {v : V} (hr : Rel (km X) B F H ρ σ) (P : Post (km X) B σ F H ρ F1 H1 ρ1) (q : RvOk (km X) F1 H1 ρ1 σ r v) (f : Fresh H r v) (h : Fin (km X) B F E (retR B.np r ρ1)) : Lk H1 fun H2 => E.rt v H2 := by
  unfold retR at h
  split at h
  · rename_i d
    obtain ⟨p, o, rfl, g1, g2, g3, g4⟩ := q
    exact .inl (h _ σ F1 H1 P.same P.rel ⟨p, o, rfl, g1, g2, g3, g4, hr.bfree (f p rfl)⟩)
  · exact .inl (h _ σ F1 H1 P.same P.rel q)
  · rename_i i
    have s := P.rel.sl i
    rw [q.1] at s
    split at h
    · rename_i d hd
      rw [hd] at s
      obtain ⟨v', e1, e2⟩ := s
      cases e1
      exact .inl (h _ σ F1 H1 P.same P.rel e2)
    · rename_i d hd
      split at h
      · rename_i hn
        rw [hd] at s
        obtain ⟨p, o, e1, e2, e3, e4⟩ := s
        cases e1
        have oi : OwnAt ρ1 σ i p := ⟨d, hd, q.1⟩
        refine .inl (h _ (σ.set i none) F1 H1 P.same (P.rel.setUn hn none) ⟨p, o, rfl, e2, e3, e4, fun j ⟨d', g1, g2⟩ => ?_, P.rel.loc i p hn oi⟩)
        by_cases hj : j = i
        · subst hj
          rw [List.getElem?_set] at g1
          simp only [if_true] at g1
          split at g1 <;> cases g1
        · rw [List.getElem?_set_ne (Ne.symm hj)] at g1 g2
          exact hj (P.rel.dis j i p ⟨d', g1, g2⟩ oi)
      · obtain ⟨p, o, g1, g2, g3, g4, g5⟩ := P.rel.freeze hd
        rw [q.1] at g1
        cases g1
        exact .inr ⟨p, o, g2, fun od => h _ σ _ _ (P.same.trans (g5 od).1.same) (g5 od).1.rel (g5 od).2⟩
    · exact h.elim
theorem ss_ret (he : SE B X e (evE B.np cf ca)) : SS B X (.Return (some e) pos) (evS B.np cf (.sRet ca)) := by
  intro F H ρ σ E hr h
  have h : Fin (km X) B F E (match evE B.np cf ca ρ with | .ok r ρ => retR B.np r ρ | .fail => .fail) := h
  cases z1 : evE B.np cf ca ρ with
  | fail => simp only [z1] at h; exact h.elim
  | ok r ρ1 =>
    simp only [z1] at h
    exact gs_of (ps_ret pe_ge) (GE.lk (he F H ρ σ _ hr ⟨r, ρ1, z1, fun v F1 H1 P q f => ret_run hr P q f h⟩))
theorem ss_retN : SS B X (.Return none pos) (evS B.np cf .sRetN) := by
  intro F H ρ σ E hr h
  exact gs_of ps_retN (h _ σ F H (Same.refl F) hr rfl)
theorem ss_for (hp : PassesOwn (model X.prog X.w) X.A X.env X.xe) (hc : X.calm = true) (hs : ∀ x, foldedSetIterable iter X.env x = pure x) (hi : SI B X tg iter (evI B.np cf ci)) (hg : SG B X tg ct) (hb : SSs B X body (evSs B.np cf cb)) :
    SS B X (.For tg iter body [] pos) (evS B.np cf (.sFor ct ci cb)) := by
  intro F H ρ σ E hr h
  have h : Fin (km X) B F E (match evI B.np cf ci ρ with | .ok ds ρ => forL (bindT B.np ct) (evSs B.np cf cb) ds ρ | .fail => .fail) := h
  cases z1 : evI B.np cf ci ρ with
  | fail => simp only [z1] at h; exact h.elim
  | ok ds ρ1 =>
    simp only [z1] at h
    refine gs_of (ps_for hp hc pi_gi pg_gg pss_gss hs) (hi F H ρ σ _ hr ⟨ds, ρ1, z1, fun J F1 H1 P it => ?_⟩)
    refine ⟨fun i m σ' H' => m = ds.length - i ∧ i ≤ ds.length ∧ ∃ F' ρ', Same F1 F' ∧ Rel (km X) B F' H' ρ' σ' ∧ Fin (km X) B F E (forL (bindT B.np ct) (evSs B.np cf cb) (ds.drop i) ρ'), ⟨ds.length, by simp, Nat.zero_le _, F1, ρ1, Same.refl _, P.rel, h⟩, ?_⟩
    rintro i m σ' H' ⟨rfl, hle, F', ρ', sm, r', hrest⟩
    by_cases hlt : i < ds.length
    · right
      refine ⟨it.go i H' (sm.trans r'.same) hlt, fun σ2 H2 => ∃ F2 ρ2, Same F1 F2 ∧ Rel (km X) B F2 H2 ρ2 σ2 ∧ Fin (km X) B F E (forL (bindT B.np ct) (evSs B.np cf cb) (ds.drop (i + 1)) ρ2), fun σ2 H2 hN => ⟨ds.length - (i + 1), by omega, rfl, hlt, hN⟩, fun x H2 hy => ?_⟩
      obtain ⟨d, hd, yok⟩ := it.yld i H' x H2 (sm.trans r'.same) hy hlt
      obtain ⟨F2, P2, qx⟩ := yok.step sm r'
      rw [List.drop_eq_getElem_cons hlt] at hrest
      rw [List.getElem?_eq_getElem hlt] at hd
      cases hd
      unfold forL at hrest
      split at hrest
      · exact hrest.elim
      · rename_i ρ3 hb'
        refine hg F2 H2 ρ' σ' x _ ρ3 _ P2.rel qx hb' fun σ3 r3 _ => ?_
        refine hb F2 H2 ρ3 σ3 _ r3 ?_
        have sm2 : Same F1 F2 := sm.trans P2.same
        have sF : Same F F2 := P.same.trans sm2
        cases zb : evSs B.np cf cb ρ3 with
        | next ρ4 =>
          simp only [zb] at hrest
          exact fun σ4 F4 H4 s4 r4 => ⟨F4, ρ4, sm2.trans s4, r4, hrest⟩
        | cont ρ4 =>
          simp only [zb] at hrest
          exact fun σ4 F4 H4 s4 r4 => ⟨F4, ρ4, sm2.trans s4, r4, hrest⟩
        | brk ρ4 =>
          simp only [zb] at hrest
          exact fun σ4 F4 H4 s4 r4 => hrest σ4 F4 H4 (sF.trans s4) r4
        | ret r ρ4 =>
          simp only [zb] at hrest
          exact fun v σ4 F4 H4 s4 r4 q4 => hrest v σ4 F4 H4 (sF.trans s4) r4 q4
        | fail =>
          simp only [zb] at hrest
          exact hrest.elim
    · left
      have ei : i = ds.length := by omega
      refine ⟨it.stop i H' (sm.trans r'.same) (by omega), ?_⟩
      rw [ei, List.drop_length] at hrest
      exact hrest σ' F' H' (P.same.trans sm) r'
theorem ss_while (hp : PassesOwn (model X.prog X.w) X.A X.env X.xe) (hc : ST B X c (evT B.np cf cc)) (hb : SSs B X body (evSs B.np cf cb)) : SS B X (.While c body [] pos) (evS B.np cf (.sWhile cc cb)) := by
  intro F H ρ σ E hr h
  have h : Fin (km X) B F E (whlL (evT B.np cf cc) (evSs B.np cf cb) whlMax ρ) := h
  refine gs_of (ps_while hp pt_gt pss_gss) ⟨fun m σ' H' => ∃ F' ρ', Same F F' ∧ Rel (km X) B F' H' ρ' σ' ∧ Fin (km X) B F E (whlL (evT B.np cf cc) (evSs B.np cf cb) m ρ'), ⟨whlMax, F, ρ, Same.refl _, hr, h⟩, ?_⟩
  rintro m σ' H' ⟨F', ρ', sm, r', hrest⟩
  cases m with
  | zero => exact hrest.elim
  | succ n =>
    unfold whlL at hrest
    cases zt : evT B.np cf cc ρ' with
    | fail => simp only [zt] at hrest; exact hrest.elim
    | ok k ρ1 =>
      refine hc F' H' ρ' σ' _ r' ⟨k, ρ1, zt, fun F1 H1 P => ?_⟩
      cases k with
      | false =>
        simp only [zt] at hrest
        rw [if_neg Bool.false_ne_true]
        exact hrest σ' F1 H1 (sm.trans P.same) P.rel
      | true =>
        simp only [zt] at hrest
        rw [if_pos rfl]
        refine ⟨fun σ2 H2 => ∃ F2 ρ2, Same F F2 ∧ Rel (km X) B F2 H2 ρ2 σ2 ∧ Fin (km X) B F E (whlL (evT B.np cf cc) (evSs B.np cf cb) n ρ2), fun σ2 H2 hN => ⟨n, Nat.lt_succ_self n, hN⟩, ?_⟩
        refine hb F1 H1 ρ1 σ' _ P.rel ?_
        have sF : Same F F1 := sm.trans P.same
        cases zb : evSs B.np cf cb ρ1 with
        | next ρ4 =>
          simp only [zb] at hrest
          exact fun σ4 F4 H4 s4 r4 => ⟨F4, ρ4, sF.trans s4, r4, hrest⟩
        | cont ρ4 =>
          simp only [zb] at hrest
          exact fun σ4 F4 H4 s4 r4 => ⟨F4, ρ4, sF.trans s4, r4, hrest⟩
        | brk ρ4 =>
          simp only [zb] at hrest
          exact fun σ4 F4 H4 s4 r4 => hrest σ4 F4 H4 (sF.trans s4) r4
        | ret r ρ4 =>
          simp only [zb] at hrest
          exact fun v σ4 F4 H4 s4 r4 q4 => hrest v σ4 F4 H4 (sF.trans s4) r4 q4
        | fail =>
          simp only [zb] at hrest
          exact hrest.elim
end
end PV

/-! PvS7: calls; a def does what its code does. -/
namespace PV
open PySem L2
abbrev σOf (vs : List V) : L2.St := vs.map some
structure ArgOk (K : KM) (F H : Hp) (ps : List Sl) (vs : List V) : Prop where
  same : Same F H
  len : ps.length = vs.length
  sl : ∀ i : Nat, SlOk K F H ps[i]? (σOf vs)[i]?
  dis : ∀ i j p, OwnAt ps (σOf vs) i p → OwnAt ps (σOf vs) j p → i = j
/-- the value of a call -/
def ValOk (K : KM) (H F' H' : Hp) : RV → V → Prop
  | .fz d, v => Rp K F' d v
  | .ow d, v => ∃ p o, v = .ref p ∧ H' p = some o ∧ F' p = none ∧ RpO K F' p d o ∧ H p = none
  | .bor _, _ => False
structure CallPost (K : KM) (F H : Hp) (ps : List Sl) (vs : List V) (F' H' : Hp) (ps' : List Sl) (r : RV) (v : V) : Prop where
  same : Same F F'
  same' : Same F' H'
  sl : ∀ i : Nat, SlOk K F' H' ps'[i]? (σOf vs)[i]?
  pres : ∀ b o, H b = some o → (∀ i, ¬ OwnAt ps (σOf vs) i b) → H' b = some o
  dom : ∀ b o, H b = some o → ∃ o', H' b = some o'
  fr : ∀ b o, F b = none → H b = some o → (∀ i, ¬ OwnAt ps (σOf vs) i b) → F' b = none
  val : ValOk K H F' H' r v
/-- what a def promises: what its code does -/
def spF (K : KM) (n : Nat) (res : List Sl → CRes) : Sp := fun vs H Q _ => vs.length = n ∧ ∃ F ps r ps', ArgOk K F H ps vs ∧ res ps = .ok r ps' ∧ ∀ v F' H', CallPost K F H ps vs F' H' ps' r v → Q v H'
/-! ### a def's body -/
section
variable {P : Program} {w : World} {K : PySem.W.Frag} {mg : Str → Option Value} {base : Heap}
abbrev Xf (P : Program) (w : World) (K : PySem.W.Frag) (mg : Str → Option Value) (base : Heap) (N : List Str) (q : Str) (sc : Scope) (f : Addr) (cdv : Value) (A : Around) (outer : List Env) (s : Shared) (H : Hp) (E : XK) : Cx := (cxOf CX0 P w K mg base N q sc f cdv A outer s H E).nox
theorem ret_val {F0 H0 : Hp} {B : Bs} {F H : Hp} {ρ : Rho} {σ : L2.St} {r : RV} {v : V} (hB : B.H = H0) (h : RetOk ⟨K, mg⟩ B F H ρ σ r v) : ValOk ⟨K, mg⟩ H0 F H r v := by
  cases r with
  | fz d => exact h
  | ow d =>
    obtain ⟨p, o, rfl, h1, h2, h3, h4, h5⟩ := h
    exact ⟨p, o, rfl, h1, h2, h3, by rw [← hB]; exact h5⟩
  | bor _ => exact h
theorem call_post {F0 H0 : Hp} {ps : List Sl} {vs : List V} {np : Nat} {F H : Hp} {ρ : Rho} {σ : L2.St} {r : RV} {v : V} (hl : vs.length = np)
    (h : Rel ⟨K, mg⟩ ⟨H0, F0, np, vs, fun p => ∃ i, OwnAt ps (σOf vs) i p⟩ F H ρ σ) (q : ValOk ⟨K, mg⟩ H0 F H r v) : CallPost ⟨K, mg⟩ F0 H0 ps vs F H (ρ.take np) r v := by
  refine ⟨h.sameB, h.same, fun i => ?_, fun b o e n => h.pre b o e fun ⟨i, z⟩ => n i z, h.dom, fun b o e g n => h.frz b o e g fun ⟨i, z⟩ => n i z, q⟩
  by_cases hi : i < np
  · rw [List.getElem?_take_of_lt hi]
    have s := h.sl i
    have a : σ[i]? = (vs[i]?).map some := h.arg i hi
    rw [a] at s
    show SlOk ⟨K, mg⟩ F H ρ[i]? (vs.map some)[i]?
    rw [List.getElem?_map]
    exact s
  · rw [List.getElem?_eq_none (by rw [List.length_take]; omega)]
    trivial
theorem fn_body {N : List Str} {q : Str} {sc : Scope} {f : Addr} {cdv : Value} {A : Around} {outer : List Env} {s : Shared} {H : Hp} {E : XK} {body : List Stmt} {fn : Fn} {cf : Nat → List Sl → CRes} {vs : List V} {Q : VK}
    (hn : N.length = fn.nn) (hnp : fn.np ≤ fn.nn) (hb : ∀ B : Bs, B.np = fn.np → SSs B (Xf P w K mg base N q sc f cdv A outer s H E) body (evSs B.np cf fn.body)) (h : spF ⟨K, mg⟩ fn.np (runF cf fn) vs H Q E) :
    GSs (Xf P w K mg base N q sc f cdv A outer s H E) body { nx := fun _ H' => Q .non H', rt := Q } (L2.start N vs) H := by
  obtain ⟨hl, F, sl, r, ps', ha, hr, k⟩ := h
  unfold runF at hr
  split at hr
  · rename_i hps
    have hlen : sl.length = vs.length := ha.len
    have gl : ∀ {i : Nat}, i < fn.np → (sl ++ List.replicate (fn.nn - fn.np) Sl.un)[i]? = sl[i]? := fun {i} hi => List.getElem?_append_left (by omega)
    have gs : ∀ {i : Nat}, i < fn.np → (L2.start N vs)[i]? = (σOf vs)[i]? := fun {i} hi => by
      unfold L2.start
      exact List.getElem?_append_left (by rw [List.length_map]; omega)
    have gu : ∀ {i : Nat}, ¬ i < fn.np → ∀ d, (sl ++ List.replicate (fn.nn - fn.np) Sl.un)[i]? ≠ some (.ow d) ∧ (sl ++ List.replicate (fn.nn - fn.np) Sl.un)[i]? ≠ some (.fz d) := fun {i} hi d => by
      rw [List.getElem?_append_right (by omega), List.getElem?_replicate]
      split
      · exact ⟨fun z => (by cases z), fun z => (by cases z)⟩
      · exact ⟨fun z => (by cases z), fun z => (by cases z)⟩
    have ow' : ∀ i p, OwnAt (sl ++ List.replicate (fn.nn - fn.np) Sl.un) (L2.start N vs) i p → i < fn.np ∧ OwnAt sl (σOf vs) i p := fun i p ⟨d, g1, g2⟩ => by
      by_cases hi : i < fn.np
      · rw [gl hi] at g1
        rw [gs hi] at g2
        exact ⟨hi, d, g1, g2⟩
      · exact absurd g1 (gu hi d).1
    have R : Rel ⟨K, mg⟩ ⟨H, F, fn.np, vs, fun p => ∃ i, OwnAt sl (σOf vs) i p⟩ F H (sl ++ List.replicate (fn.nn - fn.np) Sl.un) (L2.start N vs) := by
      refine ⟨ha.same, ?_, fun i => ?_, fun i j p x y => ha.dis i j p (ow' i p x).2 (ow' j p y).2, Same.refl _, fun b o e _ => e, fun b o e => ⟨o, e⟩, fun b o e _ _ => e, fun i p g x => ?_, fun i p g x => ⟨i, (ow' i p x).2⟩, fun i hi => ?_⟩
      · unfold L2.start
        rw [List.length_append, List.length_append, List.length_map, List.length_replicate, List.length_replicate, hn, hlen, hl]
      · by_cases hi : i < fn.np
        · rw [gl hi, gs hi]
          exact ha.sl i
        · cases e : (sl ++ List.replicate (fn.nn - fn.np) Sl.un)[i]? with
          | none => trivial
          | some x =>
            cases x with
            | un => trivial
            | fz d => exact absurd e (gu hi d).2
            | ow d => exact absurd e (gu hi d).1
      · exact absurd (ow' i p x).1 (by show ¬ i < fn.np; exact Nat.not_lt.mpr g)
      · show (L2.start N vs)[i]? = (vs[i]?).map some
        rw [gs hi]
        show (vs.map some)[i]? = _
        rw [List.getElem?_map]
    refine hb ⟨H, F, fn.np, vs, fun p => ∃ i, OwnAt sl (σOf vs) i p⟩ rfl F H _ _ _ R ?_
    cases z : evSs fn.np cf fn.body (sl ++ List.replicate (fn.nn - fn.np) Sl.un) with
    | next ρ' =>
      rw [z] at hr
      cases hr
      exact fun σ' F' H' _ r' => k _ F' H' (call_post hl r' rfl)
    | ret r0 ρ' =>
      rw [z] at hr
      cases hr
      exact fun v σ' F' H' _ r' q' => k _ F' H' (call_post hl r' (ret_val (F0 := F) rfl q'))
    | brk _ => rw [z] at hr; cases hr
    | cont _ => rw [z] at hr; cases hr
    | fail => rw [z] at hr; cases hr
  · cases hr
/-- THE RULE for a def -/
theorem fn_ok {x qual : Str} {st : Stmt} {f : Addr} {fd : FuncData} {N ps : List Str} {k : Nat} {fn : Fn} {cf : Nat → List Sl → CRes} (F : Fun K x qual st f fd) (S : FnScope N ps (defScope st)) (hps : ps.length = fn.np) (hn : N.length = fn.nn) (hnp : fn.np ≤ fn.nn)
    (hb : ∀ (B : Bs) (cdv : Value) (A : Around) (outer : List Env) (s : Shared) (H : Hp) (E : XK), B.np = fn.np → Room k (A.deeper (PyProof.Rows.envOfC qual (defScope st) s.heap.objs.size f cdv)) → SSs B (Xf P w K mg base N qual (defScope st) f cdv A outer s H E) (defBody st) (evSs B.np cf fn.body)) :
    FnOk P w K mg base CX0 (k + 1) f fd ps (spF ⟨K, mg⟩ fn.np (runF cf fn)) := by
  refine F.ok S (fun vs H Q E h => by rw [h.1, hps]) fun cdv A outer s H vs Q E hr h => ⟨GSs _ _, pss_gss, ?_⟩
  exact fn_body hn hnp (fun B hB => hb B cdv A outer s H E hB hr) h
end
/-! ### arguments -/
def ArsOk (K : KM) (F : Hp) (ρ : Rho) (σ : L2.St) : List Ar → List V → Prop
  | [], vs => vs = []
  | .val d :: l, vs => ∃ v r, vs = v :: r ∧ Rp K F d v ∧ ArsOk K F ρ σ l r
  | .slot i :: l, vs => ∃ v r, vs = v :: r ∧ σ[i]? = some (some v) ∧ Live ρ i ∧ ArsOk K F ρ σ l r
def SAr (B : Bs) (X : Cx) (es : List Expr) (m : Rho → R (List Ar)) : Prop := ∀ F H ρ σ Q, Rel (km X) B F H ρ σ → (∃ l ρ', m ρ = .ok l ρ' ∧ ∀ vs F' H', Post (km X) B σ F H ρ F' H' ρ' → ArsOk (km X) F' ρ' σ l vs → Q vs H') → GA X es σ H Q
section
variable {K : KM} {B : Bs} {σ : L2.St} {F F1 F' H H1 H' : Hp} {ρ ρ1 ρ' : Rho}
theorem ArsOk.length : ∀ {l : List Ar} {vs : List V}, ArsOk K F ρ σ l vs → vs.length = l.length
  | [], _, h => by rw [show _ = [] from h]; rfl
  | .val d :: l, _, h => by
    obtain ⟨v, r, rfl, _, h2⟩ := h
    rw [List.length_cons, List.length_cons, h2.length]
  | .slot i :: l, _, h => by
    obtain ⟨v, r, rfl, _, _, h2⟩ := h
    rw [List.length_cons, List.length_cons, h2.length]
theorem ArsOk.slot : ∀ {l : List Ar} {vs : List V} {k i : Nat}, ArsOk K F ρ σ l vs → l[k]? = some (.slot i) → σ[i]? = (σOf vs)[k]?
  | [], _, _, _, _, e => by simp at e
  | .val d :: l, _, 0, _, h, e => by cases e
  | .slot j :: l, _, 0, i, h, e => by
    obtain ⟨v, r, rfl, h1, _, _⟩ := h
    cases e
    exact h1
  | .val d :: l, _, k + 1, i, h, e => by
    obtain ⟨v, r, rfl, _, h2⟩ := h
    exact h2.slot (k := k) (by simpa using e)
  | .slot j :: l, _, k + 1, i, h, e => by
    obtain ⟨v, r, rfl, _, _, h2⟩ := h
    exact h2.slot (k := k) (by simpa using e)
theorem ArsOk.step {vs : List V} (P : Post K B σ F H ρ F1 H1 ρ1) : ∀ {l : List Ar} {vs : List V}, ArsOk K F ρ σ l vs → ArsOk K F1 ρ1 σ l vs
  | [], _, h => h
  | .val d :: l, _, h => by
    obtain ⟨v, r, rfl, h1, h2⟩ := h
    exact ⟨v, r, rfl, Rp.mono P.same d v h1, ArsOk.step (vs := vs) P h2⟩
  | .slot i :: l, _, h => by
    obtain ⟨v, r, rfl, h1, h2, h3⟩ := h
    exact ⟨v, r, rfl, h1, P.live i h2, ArsOk.step (vs := vs) P h3⟩
/-- the arguments' words -/
theorem arSl_ok (hr : Rel K B F H ρ σ) : ∀ {as : List Ar} {vs : List V} {ps : List Sl}, ArsOk K F ρ σ as vs → arSl ρ as = some ps →
    ps.length = vs.length ∧ (∀ k : Nat, SlOk K F H ps[k]? (σOf vs)[k]?) ∧ ∀ (k : Nat) (d : D), ps[k]? = some (.ow d) → ∃ i, as[k]? = some (.slot i) ∧ ρ[i]? = some (.ow d)
  | [], _, _, h, e => by
    cases e
    rw [show _ = [] from h]
    exact ⟨rfl, fun k => trivial, fun k d e => by simp at e⟩
  | .val d :: l, _, ps, h, e => by
    obtain ⟨v, r, rfl, h1, h2⟩ := h
    obtain ⟨ps', e1, rfl⟩ := omap_some (show (arSl ρ l).map (Sl.fz d :: ·) = some ps from e)
    obtain ⟨g1, g2, g3⟩ := arSl_ok hr h2 e1
    refine ⟨by rw [List.length_cons, List.length_cons, g1], fun k => ?_, fun k d' e' => ?_⟩
    · cases k with
      | zero => exact ⟨v, rfl, h1⟩
      | succ k => exact g2 k
    · cases k with
      | zero => cases e'
      | succ k => exact g3 k d' e'
  | .slot i :: l, _, ps, h, e => by
    obtain ⟨v, r, rfl, h1, h2, h3⟩ := h
    have e : (match ρ[i]? with | some (.fz d) => (arSl ρ l).map (Sl.fz d :: ·) | some (.ow d) => (arSl ρ l).map (Sl.ow d :: ·) | _ => none) = some ps := e
    have s := hr.sl i
    rw [h1] at s
    split at e
    · rename_i d hd
      rw [hd] at s
      obtain ⟨ps', e1, rfl⟩ := omap_some e
      obtain ⟨g1, g2, g3⟩ := arSl_ok hr h3 e1
      refine ⟨by rw [List.length_cons, List.length_cons, g1], fun k => ?_, fun k d' e' => ?_⟩
      · cases k with
        | zero => exact s
        | succ k => exact g2 k
      · cases k with
        | zero => cases e'
        | succ k => exact g3 k d' e'
    · rename_i d hd
      rw [hd] at s
      obtain ⟨ps', e1, rfl⟩ := omap_some e
      obtain ⟨g1, g2, g3⟩ := arSl_ok hr h3 e1
      refine ⟨by rw [List.length_cons, List.length_cons, g1], fun k => ?_, fun k d' e' => ?_⟩
      · cases k with
        | zero => exact s
        | succ k => exact g2 k
      · cases k with
        | zero =>
          cases e'
          exact ⟨i, rfl, hd⟩
        | succ k => exact g3 k d' e'
    · cases e
/-- an owned name is handed on but once -/
theorem arNd_once : ∀ {as : List Ar} {i k k' : Nat} {d : D}, arNd ρ as = true → ρ[i]? = some (.ow d) → as[k]? = some (.slot i) → as[k']? = some (.slot i) → k = k'
  | [], _, _, _, _, _, _, e, _ => by simp at e
  | .val _ :: l, i, k, k', d, h, ho, e, e' => by
    cases k with
    | zero => cases e
    | succ k =>
      cases k' with
      | zero => cases e'
      | succ k' => rw [arNd_once (as := l) (k := k) (k' := k') h ho (by simpa using e) (by simpa using e')]
  | .slot j :: l, i, k, k', d, h, ho, e, e' => by
    have h : ((!isOw ρ[j]? || l.all fun | .slot j' => j' != j | .val _ => true) && arNd ρ l) = true := h
    obtain ⟨h1, h2⟩ := Bool.and_eq_true_iff.mp h
    have no : j = i → ∀ k : Nat, l[k]? ≠ some (.slot i) := fun ej k ek => by
      subst ej
      rw [ho] at h1
      have h1 : (l.all fun | .slot j' => j' != j | .val _ => true) = true := h1
      have := List.all_eq_true.mp h1 _ (List.mem_of_getElem? ek)
      simp at this
    cases k with
    | zero =>
      cases e
      cases k' with
      | zero => rfl
      | succ k' => exact absurd (by simpa using e') (no rfl k')
    | succ k =>
      cases k' with
      | zero =>
        cases e'
        exact absurd (by simpa using e) (no rfl k)
      | succ k' => rw [arNd_once (as := l) (k := k) (k' := k') h2 ho (by simpa using e) (by simpa using e')]
theorem arNd_set {p : Sl} : ∀ {as : List Ar} {i : Nat}, arNd ρ as = true → (∀ k : Nat, as[k]? ≠ some (.slot i)) → arNd (ρ.set i p) as = true
  | [], _, _, _ => rfl
  | .val _ :: l, i, h, n => arNd_set (as := l) h fun k e => n (k + 1) (by simpa using e)
  | .slot j :: l, i, h, n => by
    have h : ((!isOw ρ[j]? || l.all fun | .slot j' => j' != j | .val _ => true) && arNd ρ l) = true := h
    obtain ⟨h1, h2⟩ := Bool.and_eq_true_iff.mp h
    have hj : i ≠ j := fun z => n 0 (by rw [z]; rfl)
    show ((!isOw (ρ.set i p)[j]? || l.all fun | .slot j' => j' != j | .val _ => true) && arNd (ρ.set i p) l) = true
    rw [List.getElem?_set_ne hj, arNd_set h2 fun k e => n (k + 1) (by simpa using e), Bool.and_true]
    exact h1
/-- what the names hold behind the call -/
theorem arBack_get : ∀ {as : List Ar} {ps : List Sl} {ρ ρ' : Rho}, arBack as ps ρ = some ρ' → arNd ρ as = true → ρ'.length = ρ.length ∧ ∀ j : Nat,
    (∃ (k : Nat) (d : D) (p : Sl), as[k]? = some (.slot j) ∧ ρ[j]? = some (.ow d) ∧ ps[k]? = some p ∧ p ≠ .un ∧ ρ'[j]? = some p) ∨ ((∀ (k : Nat) (d : D), as[k]? = some (.slot j) → ρ[j]? ≠ some (.ow d)) ∧ ρ'[j]? = ρ[j]?)
  | [], [], ρ, ρ', h, _ => by
    cases h
    exact ⟨rfl, fun j => .inr ⟨fun k d e => by simp at e, rfl⟩⟩
  | [], _ :: _, ρ, ρ', h, _ => by cases h
  | .val _ :: _, [], ρ, ρ', h, _ => by cases h
  | .slot _ :: _, [], ρ, ρ', h, _ => by cases h
  | .val d :: l, p :: ps, ρ, ρ', h, n => by
    obtain ⟨g1, g2⟩ := arBack_get (as := l) (ps := ps) (ρ := ρ) (ρ' := ρ') h n
    refine ⟨g1, fun j => ?_⟩
    rcases g2 j with ⟨k, d', p', e1, e2, e3, e4, e5⟩ | ⟨e1, e2⟩
    · exact .inl ⟨k + 1, d', p', by simpa using e1, e2, by simpa using e3, e4, e5⟩
    · refine .inr ⟨fun k d' e => ?_, e2⟩
      cases k with
      | zero => cases e
      | succ k => exact e1 k d' (by simpa using e)
  | .slot i :: l, p :: ps, ρ, ρ', h, n => by
    have n' : ((!isOw ρ[i]? || l.all fun | .slot j' => j' != i | .val _ => true) && arNd ρ l) = true := n
    obtain ⟨n1, n2⟩ := Bool.and_eq_true_iff.mp n'
    unfold arBack at h
    split at h
    · rename_i d hd
      have no : ∀ k : Nat, l[k]? ≠ some (.slot i) := fun k ek => by
        have := arNd_once (as := .slot i :: l) (k := 0) (k' := k + 1) n hd rfl (by simpa using ek)
        omega
      have hp : p ≠ .un := fun z => by
        subst z
        cases h
      have h : arBack l ps (ρ.set i p) = some ρ' := by
        cases p with
        | un => exact absurd rfl hp
        | fz _ => exact h
        | ow _ => exact h
      have hi : i < ρ.length := (List.getElem?_eq_some_iff.mp hd).1
      obtain ⟨g1, g2⟩ := arBack_get h (arNd_set n2 no)
      refine ⟨by rw [g1, List.length_set], fun j => ?_⟩
      by_cases hj : j = i
      · subst hj
        rcases g2 j with ⟨k, d', p', e1, _⟩ | ⟨e1, e2⟩
        · exact absurd e1 (no k)
        · rw [List.getElem?_set_self hi] at e2
          exact .inl ⟨0, d, p, rfl, hd, rfl, hp, e2⟩
      · rcases g2 j with ⟨k, d', p', e1, e2, e3, e4, e5⟩ | ⟨e1, e2⟩
        · rw [List.getElem?_set_ne (Ne.symm hj)] at e2
          exact .inl ⟨k + 1, d', p', by simpa using e1, e2, by simpa using e3, e4, e5⟩
        · rw [List.getElem?_set_ne (Ne.symm hj)] at e2
          refine .inr ⟨fun k d' e => ?_, e2⟩
          cases k with
          | zero =>
            cases e
            exact absurd rfl hj
          | succ k =>
            have := e1 k d' (by simpa using e)
            rw [List.getElem?_set_ne (Ne.symm hj)] at this
            exact this
    · rename_i hd
      obtain ⟨g1, g2⟩ := arBack_get h n2
      refine ⟨g1, fun j => ?_⟩
      rcases g2 j with ⟨k, d', p', e1, e2, e3, e4, e5⟩ | ⟨e1, e2⟩
      · exact .inl ⟨k + 1, d', p', by simpa using e1, e2, by simpa using e3, e4, e5⟩
      · refine .inr ⟨fun k d' e => ?_, e2⟩
        cases k with
        | zero =>
          cases e
          exact hd d'
        | succ k => exact e1 k d' (by simpa using e)
/-- behind a call -/
theorem Post.call {as : List Ar} {vs : List V} {ps ps' : List Sl} {r : RV} {v : V} (hr : Rel K B F H ρ σ) (ha : ArsOk K F ρ σ as vs) (hs : arSl ρ as = some ps) (hn : arNd ρ as = true) (c : CallPost K F H ps vs F' H' ps' r v) (hb : arBack as ps' ρ = some ρ') :
    Post K B σ F H ρ F' H' ρ' := by
  obtain ⟨hl, gb⟩ := arBack_get hb hn
  obtain ⟨a1, a2, a3⟩ := arSl_ok hr ha hs
  -- what the callee held alone was held alone by a name
  have up : ∀ k p, OwnAt ps (σOf vs) k p → ∃ i, as[k]? = some (.slot i) ∧ OwnAt ρ σ i p := fun k p ⟨d, e1, e2⟩ => by
    obtain ⟨i, e3, e4⟩ := a3 k d e1
    exact ⟨i, e3, d, e4, by rw [ha.slot e3]; exact e2⟩
  have ow' : ∀ j p, OwnAt ρ' σ j p → OwnAt ρ σ j p := fun j p ⟨d, e1, e2⟩ => by
    rcases gb j with ⟨k, d', p', _, e4, _⟩ | ⟨_, e4⟩
    · exact ⟨d', e4, e2⟩
    · exact ⟨d, by rw [← e4]; exact e1, e2⟩
  have noB : ∀ b o, B.H b = some o → ¬ B.O b → ∀ j, ¬ OwnAt ρ σ j b := fun b o g n j q => by
    by_cases hj : B.np ≤ j
    · rw [hr.loc j b hj q] at g
      cases g
    · exact n (hr.par j b (by omega) q)
  have noC : ∀ b, (∀ j, ¬ OwnAt ρ σ j b) → ∀ k, ¬ OwnAt ps (σOf vs) k b := fun b n k q => by
    obtain ⟨i, _, z⟩ := up k b q
    exact n i z
  refine ⟨c.same, ⟨c.same', by rw [hl]; exact hr.len, fun j => ?_, fun i j p x y => hr.dis i j p (ow' i p x) (ow' j p y), hr.sameB.trans c.same, fun b o g n => c.pres b o (hr.pre b o g n) (noC b (noB b o g n)), fun b o g => ?_, fun b o e g n => ?_, fun i p g x => hr.loc i p g (ow' i p x), fun i p g x => hr.par i p g (ow' i p x), hr.arg⟩,
    fun b o e n => c.pres b o e (noC b n), c.dom, ow', fun b o e g n => c.fr b o e g (noC b n), fun j q => ?_⟩
  · rcases gb j with ⟨k, d, p, e1, e2, e3, e4, e5⟩ | ⟨e1, e2⟩
    · rw [e5, ha.slot e1, ← e3]
      exact c.sl k
    · rw [e2]
      have s := hr.sl j
      cases g : ρ[j]? with
      | none => trivial
      | some x =>
        rw [g] at s
        cases x with
        | un => trivial
        | fz d =>
          obtain ⟨v', q1, q2⟩ := s
          exact ⟨v', q1, Rp.mono c.same d v' q2⟩
        | ow d =>
          obtain ⟨p, o, q1, q2, q3, q4⟩ := s
          have no : ∀ k, ¬ OwnAt ps (σOf vs) k p := fun k z => by
            obtain ⟨i, z1, z2⟩ := up k p z
            have : i = j := hr.dis i j p z2 ⟨d, g, q1⟩
            subst this
            exact e1 k d z1 g
          exact ⟨p, o, q1, c.pres p o q2 no, c.fr p o q3 q2 no, q4.mono c.same⟩
  · obtain ⟨o', e⟩ := hr.dom b o g
    exact c.dom b o' e
  · obtain ⟨o', e'⟩ := hr.dom b o g
    exact c.fr b o' (hr.frz b o e g n) e' (noC b (noB b o g n))
  · rcases gb j with ⟨k, d, p, e1, e2, e3, e4, e5⟩ | ⟨e1, e2⟩
    · cases p with
      | un => exact absurd rfl e4
      | fz d => exact ⟨d, .inl e5⟩
      | ow d => exact ⟨d, .inr e5⟩
    · obtain ⟨d, q⟩ := q
      unfold Live
      rw [e2]
      exact ⟨d, q⟩
theorem ArgOk.of {as : List Ar} {vs : List V} {ps : List Sl} (hr : Rel K B F H ρ σ) (ha : ArsOk K F ρ σ as vs) (hs : arSl ρ as = some ps) (hn : arNd ρ as = true) : ArgOk K F H ps vs := by
  obtain ⟨a1, a2, a3⟩ := arSl_ok hr ha hs
  refine ⟨hr.same, a1, a2, fun k k' p ⟨d, e1, e2⟩ ⟨d', e3, e4⟩ => ?_⟩
  obtain ⟨i, g1, g2⟩ := a3 k d e1
  obtain ⟨i', g3, g4⟩ := a3 k' d' e3
  have : i = i' := hr.dis i i' p ⟨d, g2, by rw [ha.slot g1]; exact e2⟩ ⟨d', g4, by rw [ha.slot g3]; exact e4⟩
  subst this
  exact arNd_once hn g2 g1 g3
end
/-! ### the call of a def -/
/-- a def of the text that can be called -/
structure Callee (P : Program) (w : World) (K : PySem.W.Frag) (mg : Str → Option Value) (base : Heap) (k : Nat) (x : Str) (n : Nat) (res : List Sl → CRes) : Prop where
  ex : ∃ (f : Addr) (fd : FuncData) (ps : List Str), mg x = some (.ref f) ∧ PySem.W.keepIn K (.ref f) = true ∧ Binds K fd ps [] ∧ FnOk P w K mg base CX0 k f fd ps (spF ⟨K, mg⟩ n res)
section
variable {B : Bs} {X : Cx} {e a b c : Expr} {es : List Expr} {pos p : Pos} {np : Nat} {cf : Nat → List Sl → CRes} {ca cb cc : C} {x : Str}
theorem sar_nil : SAr B X [] (evAs np cf .nil) := by
  intro F H ρ σ Q hr ⟨l, ρ', hm, k⟩
  cases hm
  exact ga_of pa_nil (k [] F H (Post.refl hr) rfl)
theorem sar_slot {i : Nat} (hN : X.N[i]? = some x) (hv : Vis X.env.scope x) (hd : (x == ("__debug__" : Str)) = false) (hcd : (x == ("__classdict__" : Str)) = false) (hs : starEach (.Name x p :: es) X.env = (false, eval (.Name x p) X.env) :: starEach es X.env) (hb : SAr B X es (evAs np cf cb)) :
    SAr B X (.Name x p :: es) (evAs np cf (.cons (.slot i) cb)) := by
  intro F H ρ σ Q hr ⟨l, ρ', hm, k⟩
  have hm : (match ρ[i]? with | some (.fz _) | some (.ow _) => (evAs np cf cb ρ).bind fun l ρ => R.ok (Ar.slot i :: l) ρ | _ => .fail) = .ok l ρ' := hm
  have s := hr.sl i
  have go : Live ρ i → (∃ v, σ[i]? = some (some v)) → (evAs np cf cb ρ).bind (fun l ρ => R.ok (Ar.slot i :: l) ρ) = .ok l ρ' → GA X (.Name x p :: es) σ H Q := by
    intro lv ⟨v, ev⟩ m
    obtain ⟨l', ρ1, h1, m1⟩ := bind_ok m
    cases m1
    refine ga_of (pa_cons (pe_var hN hv hd hcd) pa_ga hs) ⟨v, ev, ?_⟩
    refine hb F H ρ σ _ hr ⟨l', _, h1, fun vs F1 H1 P q => ?_⟩
    exact k _ F1 H1 P ⟨v, vs, rfl, ev, P.live i lv, q⟩
  split at hm
  · rename_i d hd'
    rw [hd'] at s
    obtain ⟨v, e1, _⟩ := s
    exact go ⟨d, .inl hd'⟩ ⟨v, e1⟩ hm
  · rename_i d hd'
    rw [hd'] at s
    obtain ⟨p', o, e1, _⟩ := s
    exact go ⟨d, .inr hd'⟩ ⟨_, e1⟩ hm
  · cases hm
theorem sar_val (hc : ∀ i, ca ≠ .slot i) (hs : starEach (a :: es) X.env = (false, eval a X.env) :: starEach es X.env) (ha : SE B X a (evE np cf ca)) (hb : SAr B X es (evAs np cf cb)) : SAr B X (a :: es) (evAs np cf (.cons ca cb)) := by
  intro F H ρ σ Q hr ⟨l, ρ', hm, k⟩
  have hm : (evE np cf ca ρ).bind (fun r ρ => (toFz ρ r).bind fun d ρ => (evAs np cf cb ρ).bind fun l ρ => R.ok (Ar.val d :: l) ρ) = .ok l ρ' := by
    cases ca <;> first | exact absurd rfl (hc _) | exact hm
  obtain ⟨r, ρ1, h1, m1⟩ := bind_ok hm
  obtain ⟨d, ρ2, h2, m2⟩ := bind_ok m1
  obtain ⟨l', ρ3, h3, m3⟩ := bind_ok m2
  cases m3
  refine ga_of (pa_cons pe_ge pa_ga hs) (ha.sd F H ρ σ _ hr ⟨d, ρ2, by show (evE np cf ca ρ).bind _ = _; rw [h1]; exact h2, fun v F2 H1 P2 q2 => ?_⟩)
  refine hb F2 H1 ρ2 σ _ P2.rel ⟨_, _, h3, fun vs F3 H3 P3 q3 => ?_⟩
  exact k _ F3 H3 (P2.trans P3) ⟨v, vs, rfl, Rp.mono P3.same d v q2, q3⟩
theorem CallPost.rv {K : KM} {F H F' H' : Hp} {ρ ρ' : Rho} {σ : L2.St} {ps ps' : List Sl} {vs : List V} {r : RV} {v : V} (hr : Rel K B F H ρ σ) (P : Post K B σ F H ρ F' H' ρ') (c : CallPost K F H ps vs F' H' ps' r v) : RvOk K F' H' ρ' σ r v ∧ Fresh H r v := by
  cases r with
  | fz d => exact ⟨c.val, trivial⟩
  | ow d =>
    obtain ⟨p, o, rfl, h1, h2, h3, h4⟩ := c.val
    exact ⟨⟨p, o, rfl, h1, h2, h3, fun i q => (hr.newFree h4).2 i (P.own i p q)⟩, fun p' e => by cases e; exact h4⟩
  | bor _ => exact c.val.elim
theorem se_call {k n f : Nat} (C : Callee X.prog X.w X.K X.mg X.base k x n (cf f)) (hrm : Room k X.A) (hg : Gl X x) (hdb : (x == ("__debug__" : Str)) = false) (he : starEach (e :: es) X.env = (false, eval e X.env) :: starEach es X.env) (hpl : (backTo pos (starEach es X.env)).any (·.1) = false)
    (hlen : (e :: es).length = n) (ha : SAr B X (e :: es) (evAs np cf ca)) (hal : ∀ ρ l ρ', evAs np cf ca ρ = .ok l ρ' → l.length = n) : SE B X (.Call (.Name x p) (e :: es) [] pos) (evE np cf (.call f ca)) := by
  intro F H ρ σ Q hr ⟨r, ρ', hm, kk⟩
  obtain ⟨fa, fd, psn, hmg, hkp, hbd, hok⟩ := C.ex
  obtain ⟨as, ρ1, h1, m1⟩ := bind_ok hm
  refine ge_of (pe_call hok hrm hg hmg hkp hbd .nil pass0 pa_ga hdb he hpl) (ha F H ρ σ _ hr ⟨as, ρ1, h1, fun vs F1 H1 P q => ?_⟩)
  split at m1
  · rename_i hnd
    split at m1
    · cases m1
    · rename_i sl hsl
      unfold callR at m1
      split at m1
      · cases m1
      · rename_i r0 ps' hres
        split at m1
        · cases m1
        · rename_i ρ2 hback
          refine ⟨by rw [List.append_nil, q.length, hal ρ as ρ1 h1], F1, sl, r0, ps', ?_, hres, fun v F' H' c => ?_⟩
          · rw [List.append_nil]
            exact ArgOk.of P.rel q hsl hnd
          · rw [List.append_nil] at c
            have PC := Post.call P.rel q hsl hnd c hback
            obtain ⟨g1, g2⟩ := c.rv P.rel PC
            cases r0 with
            | bor _ => exact c.val.elim
            | fz d => cases m1; exact kk v F' H' (P.trans PC) g1 (g2.back P)
            | ow d => cases m1; exact kk v F' H' (P.trans PC) g1 (g2.back P)
  · cases m1
end
end PV

/-! PvS8: calls with one new thing; defs with a star parameter; the table of defs. -/
namespace PV
open PySem L2
section
variable {K : KM} {B : Bs} {σ : L2.St} {F F1 F' H H1 H' : Hp} {ρ ρ1 ρ' : Rho}
/-- a call that was handed a new thing, or nothing that is held alone -/
theorem Post.callTmp {ps ps' : List Sl} {vs : List V} {r : RV} {v : V} (hr : Rel K B F H ρ σ) (P : Post K B σ F H ρ F1 H1 ρ1) (hf : ∀ i p, OwnAt ps (σOf vs) i p → H p = none ∧ ∀ j, ¬ OwnAt ρ1 σ j p) (c : CallPost K F1 H1 ps vs F' H' ps' r v) : Post K B σ F H ρ F' H' ρ1 := by
  have h := P.rel
  have no : ∀ b o, H b = some o → ∀ i, ¬ OwnAt ps (σOf vs) i b := fun b o e i q => by
    rw [(hf i b q).1] at e
    cases e
  have noB : ∀ b o, B.H b = some o → ∀ i, ¬ OwnAt ps (σOf vs) i b := fun b o e => by
    obtain ⟨o', e'⟩ := hr.dom b o e
    exact no b o' e'
  refine ⟨P.same.trans c.same, ⟨c.same', h.len, fun j => ?_, h.dis, h.sameB.trans c.same, fun b o g n => c.pres b o (h.pre b o g n) (noB b o g), fun b o g => ?_, fun b o e g n => ?_, h.loc, h.par, h.arg⟩, fun b o e n => c.pres b o (P.pres b o e n) (no b o e), fun b o e => ?_, P.own, fun b o e g n => c.fr b o (P.fr b o e g n) (P.pres b o g n) (no b o g), P.live⟩
  · have s := h.sl j
    cases g : ρ1[j]? with
    | none => trivial
    | some x =>
      rw [g] at s
      cases x with
      | un => trivial
      | fz d =>
        obtain ⟨v', q1, q2⟩ := s
        exact ⟨v', q1, Rp.mono c.same d v' q2⟩
      | ow d =>
        obtain ⟨p, o, q1, q2, q3, q4⟩ := s
        have n2 : ∀ i, ¬ OwnAt ps (σOf vs) i p := fun i q => (hf i p q).2 j ⟨d, g, q1⟩
        exact ⟨p, o, q1, c.pres p o q2 n2, c.fr p o q3 q2 n2, q4.mono c.same⟩
  · obtain ⟨o', e⟩ := h.dom b o g
    exact c.dom b o' e
  · obtain ⟨o', e'⟩ := h.dom b o g
    exact c.fr b o' (h.frz b o e g n) e' (noB b o g)
  · obtain ⟨o', e'⟩ := P.dom b o e
    exact c.dom b o' e'
theorem CallPost.rvT {ps ps' : List Sl} {vs : List V} {r : RV} {v : V} (hr : Rel K B F H ρ σ) (P : Post K B σ F H ρ F1 H1 ρ1) (c : CallPost K F1 H1 ps vs F' H' ps' r v) : RvOk K F' H' ρ1 σ r v ∧ Fresh H r v := by
  cases r with
  | fz d => exact ⟨c.val, trivial⟩
  | ow d =>
    obtain ⟨p, o, rfl, h1, h2, h3, h4⟩ := c.val
    exact ⟨⟨p, o, rfl, h1, h2, h3, fun i q => (P.rel.newFree h4).2 i q⟩, Fresh.back P (r := .ow d) fun p' e => by cases e; exact h4⟩
  | bor _ => exact c.val.elim
end
section
variable {B : Bs} {X : Cx} {e a b c : Expr} {es : List Expr} {pos p : Pos} {np : Nat} {cf : Nat → List Sl → CRes} {ca cb cc : C} {x : Str}
theorem one_sl {s : Sl} {vx : V} {i : Nat} {q : Addr} (h : OwnAt [s] (σOf [vx]) i q) : i = 0 ∧ (∃ d, s = .ow d) ∧ vx = .ref q := by
  obtain ⟨d, e1, e2⟩ := h
  cases i with
  | zero =>
    cases e1
    cases e2
    exact ⟨rfl, ⟨d, rfl⟩, rfl⟩
  | succ i => simp at e1
theorem se_call1 {k fi : Nat} (C : Callee X.prog X.w X.K X.mg X.base k x 1 (cf fi)) (hrm : Room k X.A) (hg : Gl X x) (hdb : (x == ("__debug__" : Str)) = false) (hs : starEach [e] X.env = (false, eval e X.env) :: starEach [] X.env)
    (ha : SE B X e (evE np cf ca)) : SE B X (.Call (.Name x p) [e] [] pos) (evE np cf (.call1 fi ca)) := by
  intro F H ρ σ Q hr ⟨r, ρ', hm, kk⟩
  obtain ⟨fa, fd, psn, hmg, hkp, hbd, hok⟩ := C.ex
  obtain ⟨y, ρ1, h1, m1⟩ := bind_ok hm
  refine ge_of (pe_call hok hrm hg hmg hkp hbd .nil pass0 pa_ga hdb hs rfl) (ga_one hs (ha F H ρ σ _ hr ⟨y, ρ1, h1, fun v F1 H1 P q f => ?_⟩))
  have fin : ∀ (sl : Sl) (r0 : RV) (ps' : List Sl), SlOk (km X) F1 H1 (some sl) (some (some v)) → (∀ q, (∃ d, sl = .ow d) → v = .ref q → H q = none ∧ ∀ j, ¬ OwnAt ρ1 σ j q) → cf fi [sl] = .ok r0 ps' → r0 = r → ρ1 = ρ' → spF (km X) 1 (cf fi) [v] H1 Q (fun _ _ _ => False) := by
    intro sl r0 ps' s1 s2 hres e1 e2
    subst e1
    subst e2
    refine ⟨rfl, F1, [sl], r0, ps', ⟨P.rel.same, rfl, fun i => ?_, fun i j q' a b => ?_⟩, hres, fun v' F' H' c => ?_⟩
    · cases i with
      | zero => exact s1
      | succ i => trivial
    · rw [(one_sl a).1, (one_sl b).1]
    · have P2 := Post.callTmp hr P (fun i q' z => s2 q' (one_sl z).2.1 (one_sl z).2.2) c
      obtain ⟨g1, g2⟩ := c.rvT hr P
      exact kk v' F' H' P2 g1 g2
  split at m1
  · rename_i d
    obtain ⟨p0, o0, rfl, g1, g2, g3, g4⟩ := q
    have s1 : SlOk (km X) F1 H1 (some (.ow d)) (some (some (V.ref p0))) := ⟨p0, o0, rfl, g1, g2, g3⟩
    have s2 : ∀ q, (∃ d', Sl.ow d = .ow d') → V.ref p0 = .ref q → H q = none ∧ ∀ j, ¬ OwnAt ρ1 σ j q := fun q _ e => by cases e; exact ⟨f p0 rfl, g4⟩
    split at m1
    · rename_i d' ps' hres
      cases m1
      exact fin _ _ ps' s1 s2 hres rfl rfl
    · rename_i d' ps' hres
      cases m1
      exact fin _ _ ps' s1 s2 hres rfl rfl
    · cases m1
  · rename_i d
    have s1 : SlOk (km X) F1 H1 (some (.fz d)) (some (some v)) := ⟨v, rfl, q⟩
    have s2 : ∀ q, (∃ d', Sl.fz d = .ow d') → v = .ref q → H q = none ∧ ∀ j, ¬ OwnAt ρ1 σ j q := fun q ⟨_, z⟩ _ => by cases z
    split at m1
    · rename_i d' ps' hres
      cases m1
      exact fin _ _ ps' s1 s2 hres rfl rfl
    · rename_i d' ps' hres
      cases m1
      exact fin _ _ ps' s1 s2 hres rfl rfl
    · cases m1
  · cases m1
/-! ### a def with a star parameter alone -/
/-- the promise: the arguments, put into a tuple -/
def spS (K : KM) (res : List Sl → CRes) : Sp := fun vs H Q E => ∃ ws rest, vs = ws ++ rest ∧ ws.length = ([] : List Str).length ∧ rest.length ≤ sizeLine ∧ ∀ p, H p = Option.none → spF K 1 res (ws ++ [V.ref p]) (upd H p (.tup rest)) Q E
structure CalleeS (P : Program) (w : World) (K : PySem.W.Frag) (mg : Str → Option Value) (base : Heap) (k : Nat) (x : Str) (res : List Sl → CRes) : Prop where
  ex : ∃ (f : Addr), mg x = some (.ref f) ∧ PySem.W.keepIn K (.ref f) = true ∧ FnR P w K mg base CX0 k f (spS ⟨K, mg⟩ res)
theorem pe_callR {CX : CXT} {k : Nat} {f : Addr} {sp : Sp} {E : XK} {t : TA} (F : FnR X.prog X.w X.K X.mg X.base CX k f sp) (hr : Room k X.A) (hk : PySem.W.keepIn X.K (.ref f) = true) (hg : Gl X x) (hm : X.mg x = some (.ref f)) (hx : Passes CX X E) (ha : PA X (e :: es) t) (hd : (x == ("__debug__" : Str)) = false)
    (he : starEach (e :: es) X.env = (false, eval e X.env) :: starEach es X.env) (hst : (backTo pos (starEach es X.env)).any (·.1) = false) : PE X (.Call (.Name x p) (e :: es) [] pos) (fun σ H Q => t σ H fun vs H1 => sp vs H1 Q E) := by
  refine ⟨fun pins s σ H Q I h => ?_⟩
  refine wpAny_Call_Name_kw (ld_glob I hg hm ?_ hd)
  refine PySem.W.callWith_K (h₀ := X.base) I.ok.mod.kin hk (thn (ha.run pos pins s σ H _ I h) fun us s1 ⟨vs, H1, I1, r, q⟩ => ⟨I1.kIn, ?_⟩) he hst
  exact wpAny_call (run_fnR F hr hx I1 r q)
theorem pe_callR0 {CX : CXT} {k : Nat} {f : Addr} {sp : Sp} {E : XK} (F : FnR X.prog X.w X.K X.mg X.base CX k f sp) (hr : Room k X.A) (hk : PySem.W.keepIn X.K (.ref f) = true) (hg : Gl X x) (hm : X.mg x = some (.ref f)) (hx : Passes CX X E) (hd : (x == ("__debug__" : Str)) = false) :
    PE X (.Call (.Name x p) [] [] pos) (fun σ H Q => sp [] H Q E) := by
  refine ⟨fun pins s σ H Q I h => ?_⟩
  refine wpAny_Call_Name_kw (ld_glob I hg hm ?_ hd)
  exact PySem.W.callWith_K0 I.kIn hk (wpAny_call (run_fnR (us := []) F hr hx I .nil h))
/-- the call of such a def, behind its arguments -/
theorem starRun {f : Nat} {F H F1 H1 : Hp} {ρ ρ1 ρ' : Rho} {σ : L2.St} {r : RV} {Q : VK} {l : List D} {vs : List V} (hr : Rel (km X) B F H ρ σ) (P : Post (km X) B σ F H ρ F1 H1 ρ1) (q : RpL (km X) F1 l vs)
    (m1 : (if l.length ≤ maxLen then (match cf f [.fz (.tup l)] with | .ok (.fz d) _ => R.ok (RV.fz d) ρ1 | .ok (.ow d) _ => .ok (.ow d) ρ1 | _ => .fail) else .fail) = .ok r ρ')
    (kk : ∀ v F' H', Post (km X) B σ F H ρ F' H' ρ' → RvOk (km X) F' H' ρ' σ r v → Fresh H r v → Q v H') : spS (km X) (cf f) vs H1 Q (fun _ _ _ => False) := by
  split at m1
  · rename_i hl
    refine ⟨[], vs, rfl, rfl, by rw [q.length]; exact maxLen_le hl, fun p hp => ?_⟩
    obtain ⟨P2, q2⟩ := Post.newTup P.rel hp q
    have PT := P.trans P2
    have fin : ∀ (r0 : RV) (ps' : List Sl), cf f [.fz (.tup l)] = .ok r0 ps' → r0 = r → ρ1 = ρ' → spF (km X) 1 (cf f) [V.ref p] (upd H1 p (.tup vs)) Q (fun _ _ _ => False) := by
      intro r0 ps' hres e1 e2
      subst e1
      subst e2
      refine ⟨rfl, _, [.fz (.tup l)], r0, ps', ⟨P2.rel.same, rfl, fun i => ?_, fun i j q' a b => ?_⟩, hres, fun v' F' H' c => ?_⟩
      · cases i with
        | zero => exact ⟨_, rfl, q2⟩
        | succ i => trivial
      · rw [(one_sl a).1, (one_sl b).1]
      · have P3 := Post.callTmp hr PT (fun i q' z => by obtain ⟨_, ⟨_, z⟩, _⟩ := one_sl z; cases z) c
        obtain ⟨g1, g2⟩ := c.rvT hr PT
        exact kk v' F' H' P3 g1 g2
    split at m1
    · rename_i d' ps' hres
      cases m1
      exact fin _ ps' hres rfl rfl
    · rename_i d' ps' hres
      cases m1
      exact fin _ ps' hres rfl rfl
    · cases m1
  · cases m1
theorem se_callS {k f : Nat} (C : CalleeS X.prog X.w X.K X.mg X.base k x (cf f)) (hrm : Room k X.A) (hg : Gl X x) (hdb : (x == ("__debug__" : Str)) = false) (he : starEach (e :: es) X.env = (false, eval e X.env) :: starEach es X.env) (hpl : (backTo pos (starEach es X.env)).any (·.1) = false)
    (ha : SL B X (e :: es) (evEs np cf ca)) : SE B X (.Call (.Name x p) (e :: es) [] pos) (evE np cf (.callS f ca)) := by
  intro F H ρ σ Q hr ⟨r, ρ', hm, kk⟩
  obtain ⟨fa, hmg, hkp, hok⟩ := C.ex
  obtain ⟨l, ρ1, h1, m1⟩ := bind_ok hm
  refine ge_of (pe_callR hok hrm hkp hg hmg pass0 pa_ga hdb he hpl) (ha F H ρ σ _ hr ⟨l, ρ1, h1, fun vs F1 H1 P q => ?_⟩)
  exact starRun hr P q m1 kk
theorem se_callS0 {k f : Nat} (C : CalleeS X.prog X.w X.K X.mg X.base k x (cf f)) (hrm : Room k X.A) (hg : Gl X x) (hdb : (x == ("__debug__" : Str)) = false) : SE B X (.Call (.Name x p) [] [] pos) (evE np cf (.callS f .nil)) := by
  intro F H ρ σ Q hr ⟨r, ρ', hm, kk⟩
  obtain ⟨fa, hmg, hkp, hok⟩ := C.ex
  obtain ⟨l, ρ1, h1, m1⟩ := bind_ok hm
  cases h1
  exact ge_of (pe_callR0 hok hrm hkp hg hmg pass0 hdb) (starRun (l := []) (vs := []) hr (Post.refl hr) (show RpL (km X) F [] [] from rfl) m1 kk)
end
section
variable {P : Program} {w : World} {K : PySem.W.Frag} {mg : Str → Option Value} {base : Heap}
theorem fnS_ok {x qual pv : Str} {st : Stmt} {f : Addr} {fd : FuncData} {N : List Str} {k : Nat} {fn : Fn} {cf : Nat → List Sl → CRes} (F : Fun K x qual st f fd) (S : FnScope N [pv] (defScope st)) (hps : fn.np = 1) (hn : N.length = fn.nn) (hnp : fn.np ≤ fn.nn)
    (hbd : ∀ (kV doc pm : Value) (an : Option Addr) (cdv ct : Value) (rest : List Value), bindArgs (PySem.W.fnOf x qual (defArgs st) (defBody st) (defScope st) .none kV doc pm an cdv ct) ⟨rest, []⟩ = (newTuple rest >>= fun t => pure [(pv, t)]))
    (hb : ∀ (B : Bs) (cdv : Value) (A : Around) (outer : List Env) (s : Shared) (H : Hp) (E : XK), B.np = fn.np → Room k (A.deeper (PyProof.Rows.envOfC qual (defScope st) s.heap.objs.size f cdv)) → SSs B (Xf P w K mg base N qual (defScope st) f cdv A outer s H E) (defBody st) (evSs B.np cf fn.body)) :
    FnR P w K mg base CX0 (k + 1) f (spS ⟨K, mg⟩ (runF cf fn)) := by
  obtain ⟨oc, od, kV, doc, pm, an, cdv, ct, osl, rfl, lk, hcd⟩ := F.ex
  refine StX.fn_star (ps := []) (pv := pv) lk hcd S StX.cxUp_none (fun us rest hl => ?_) fun A outer s H vs Q E hr h => ⟨GSs (Xf P w K mg base N qual (defScope st) f cdv A outer s H E) (defBody st), (pss_gss (X := Xf P w K mg base N qual (defScope st) f cdv A outer s H E)).nox, ?_⟩
  · have : us = [] := List.eq_nil_of_length_eq_zero hl
    subst this
    exact hbd kV doc pm an cdv ct rest
  · rw [← hps] at h
    exact fn_body hn hnp (fun B hB => hb B cdv A outer s H E hB hr) h
end
end PV

/-! PvS9: objects: fields read, fields stored. -/
namespace PV
open PySem L2
theorem lookup_at {f : Str} {v : V} : ∀ {fs : List (Str × V)} {k : Nat}, (fs.map (·.1)).Nodup → fs[k]? = some (f, v) → fs.lookup f = some v
  | [], k, _, h => by simp at h
  | (g, x) :: fs, 0, _, h => by
    cases h
    simp [List.lookup]
  | (g, x) :: fs, k + 1, hn, h => by
    have hn' : g ∉ fs.map (·.1) ∧ (fs.map (·.1)).Nodup := by simpa using hn
    have h' : fs[k]? = some (f, v) := by simpa using h
    have hm : f ∈ fs.map (·.1) := List.mem_map.mpr ⟨(f, v), List.mem_of_getElem? h', rfl⟩
    have hne : f ≠ g := fun z => hn'.1 (z ▸ hm)
    have := lookup_at hn'.2 h'
    unfold List.lookup
    rw [show (f == g) = false from beq_false_of_ne hne]
    exact this
theorem putF_new {f : Str} {v : V} : ∀ {fs : List (Str × V)}, f ∉ fs.map (·.1) → putF f v fs = fs ++ [(f, v)]
  | [], _ => rfl
  | (g, x) :: fs, h => by
    have h' : ¬ (f = g) ∧ f ∉ fs.map (·.1) := by simpa using h
    unfold putF
    rw [if_neg (Ne.symm h'.1), putF_new h'.2]
    rfl
theorem take_snoc {l : List Str} {k : Nat} {f : Str} (h : l[k]? = some f) : l.take (k + 1) = l.take k ++ [f] := by
  rw [List.take_succ, h]
  rfl
theorem take_new {l : List Str} {k : Nat} {f : Str} (hn : l.Nodup) (h : l[k]? = some f) : f ∉ l.take k := by
  intro z
  obtain ⟨i, hi, e⟩ := List.mem_iff_getElem.mp z
  have hi' : i < k ∧ i < l.length := by rw [List.length_take] at hi; omega
  rw [List.getElem_take] at e
  obtain ⟨hk, e2⟩ := List.getElem?_eq_some_iff.mp h
  have := (List.getElem_inj (h₀ := hi'.2) (h₁ := hk) hn).mp (by rw [e, e2])
  omega
section
variable {B : Bs} {X : Cx} {e a b : Expr} {es : List Expr} {pos p : Pos} {np : Nat} {cf : Nat → List Sl → CRes} {ca cb cc : C} {x f : Str} {c k : Nat} {ci : Cls} {Ca : Addr}
/-- what is known of an own class -/
structure ClsI (K : PySem.W.Frag) (mg : Str → Option Value) (c : Nat) (ci : Cls) (Ca : Addr) : Prop where
  at_ : clsT[c]? = some ci
  mg : mg ci.name = some (.ref Ca)
  nex : ci.exc = false
theorem ObO.ins {K : KM} {F : Hp} {q : Addr} {vs : List V} {o : HO} (h : ObO K F q c vs o) (hc : ClsI K.fr K.mg c ci Ca) (hs : ci.slots = false) : ∃ dx fs, o = .ins Ca dx fs ∧ fs.map (·.1) = ci.flds.take vs.length ∧ fs.map (·.2) = vs := by
  obtain ⟨ci', C', dx, h1, h2, h3⟩ := h
  rw [hc.at_] at h1
  cases h1
  rw [hc.mg] at h2
  cases h2
  rcases h3 with ⟨z, _⟩ | ⟨z, _⟩ | ⟨_, _, fs, h⟩
  · rw [hs] at z; cases z
  · rw [hc.nex] at z; cases z
  · exact ⟨dx, fs, h⟩
theorem ObO.sl {K : KM} {F : Hp} {q : Addr} {vs : List V} {o : HO} (h : ObO K F q c vs o) (hc : ClsI K.fr K.mg c ci Ca) (hs : ci.slots = true) : ∃ dx, F dx = some (.own q) ∧ dx ≠ q ∧ (o = L2.SlO Ca dx q (vs.map some) ∨ (vs = [] ∧ o = .ins Ca dx [])) := by
  obtain ⟨ci', C', dx, h1, h2, h3⟩ := h
  rw [hc.at_] at h1
  cases h1
  rw [hc.mg] at h2
  cases h2
  rcases h3 with ⟨_, z⟩ | ⟨z, _⟩ | ⟨z, _⟩
  · exact ⟨dx, z⟩
  · rw [hc.nex] at z; cases z
  · rw [hs] at z; cases z
theorem fldD_ok {d d' : D} (h : fldD c k d = some d') : ∃ l, d = .obj c l ∧ l[k]? = some d' := by
  cases d with
  | obj c' l =>
    have g : (if c' = c then l[k]? else none) = some d' := h
    clear h
    split at g
    · rename_i z
      subst z
      exact ⟨l, rfl, g⟩
    · cases g
  | _ => cases h
/-- o.f of an instance with a dict -/
theorem se_fldI (hc : ClsI X.K X.mg c ci Ca) (hs : ci.slots = false) (hf : ci.flds[k]? = some f) (hn : ci.flds.Nodup) (cl : L2.Cls X.K Ca) (na : NoAttr X.K Ca f) (hb : attributeBase e f X.env (eval e X.env) = eval e X.env)
    (ha : SE B X e (evE np cf ca)) : SE B X (.Attribute e f pos) (evE np cf (.fld c k ca)) := by
  intro F H ρ σ Q hr ⟨r, ρ', hm', kk⟩
  obtain ⟨y, ρ1, h1, m1⟩ := bind_ok hm'
  obtain ⟨d, ρ2, m2, m3⟩ := bind_ok m1
  obtain ⟨e1, e2⟩ := ofO_ok m2
  subst e2
  cases m3
  obtain ⟨dy, hy, hf'⟩ := obind_some e1
  obtain ⟨l, rfl, hl⟩ := fldD_ok hf'
  refine ge_of (pe_fld pe_ge hb) (ha F H ρ σ _ hr ⟨y, _, h1, fun v F1 H1 P q _ => ?_⟩)
  obtain ⟨q0, o, vs, rfl, g1, g2, g3⟩ := Ct.obj P.rel.same (der_ct P.rel q hy)
  obtain ⟨dx, fs, rfl, i1, i2⟩ := g2.ins hc hs
  obtain ⟨v', hv', rv⟩ := g3.get hl
  have hk : k < vs.length := (List.getElem?_eq_some_iff.mp hv').1
  have hfs : fs[k]? = some (f, v') := by
    have a1 : (fs.map (·.1))[k]? = some f := by rw [i1, List.getElem?_take_of_lt hk]; exact hf
    have a2 : (fs.map (·.2))[k]? = some v' := by rw [i2]; exact hv'
    rw [List.getElem?_map] at a1 a2
    cases g : fs[k]? with
    | none => rw [g] at a1; cases a1
    | some t =>
      rw [g] at a1 a2
      obtain ⟨t1, t2⟩ := t
      cases a1
      cases a2
      rfl
  refine ⟨q0, Ca, dx, fs, v', rfl, g1, cl, na, lookup_at ?_ hfs, kk v' F1 H1 P rv trivial⟩
  rw [i1]
  exact hn.sublist (List.take_sublist _ _)
/-- o.f of an instance with slots -/
theorem se_fldS {pa : Addr} (hc : ClsI X.K X.mg c ci Ca) (hs : ci.slots = true) (cl : L2.SCls X.K Ca) (sl : L2.Slt X.K Ca f k pa) (hb : attributeBase e f X.env (eval e X.env) = eval e X.env)
    (ha : SE B X e (evE np cf ca)) : SE B X (.Attribute e f pos) (evE np cf (.fld c k ca)) := by
  intro F H ρ σ Q hr ⟨r, ρ', hm', kk⟩
  obtain ⟨y, ρ1, h1, m1⟩ := bind_ok hm'
  obtain ⟨d, ρ2, m2, m3⟩ := bind_ok m1
  obtain ⟨e1, e2⟩ := ofO_ok m2
  subst e2
  cases m3
  obtain ⟨dy, hy, hf'⟩ := obind_some e1
  obtain ⟨l, rfl, hl⟩ := fldD_ok hf'
  refine ge_of (pe_slot cl sl pe_ge hb) (ha F H ρ σ _ hr ⟨y, _, h1, fun v F1 H1 P q _ => ?_⟩)
  obtain ⟨q0, o, vs, rfl, g1, g2, g3⟩ := Ct.obj P.rel.same (der_ct P.rel q hy)
  obtain ⟨dx, i1, i2, i3⟩ := g2.sl hc hs
  obtain ⟨v', hv', rv⟩ := g3.get hl
  rcases i3 with rfl | ⟨z, _⟩
  · refine ⟨q0, dx, vs.map some, v', rfl, ⟨P.rel.same _ _ i1, i2, .inl g1⟩, by rw [List.getElem?_map, hv']; rfl, kk v' F1 H1 P rv trivial⟩
  · subst z
    simp at hv'
/-- name.f = e, an instance with a dict that the name alone holds -/
theorem ss_fldI {i : Nat} {p2 p3 : Pos} (hc : ClsI X.K X.mg c ci Ca) (hs : ci.slots = false) (hf : ci.flds[k]? = some f) (hn : ci.flds.Nodup) (hlt : ci.flds.length < 1000) (cl : L2.Cls X.K Ca) (na : NoAttr X.K Ca f) (ho : X.N[i]? = some x) (hv : Vis X.env.scope x) (hd : (x == ("__debug__" : Str)) = false) (hcd : (x == ("__classdict__" : Str)) = false)
    (hsw : swapsWith e (some (.Attribute (.Name x p2) f p3)) pos.line X.env = pure false) (he : SE B X e (evE B.np cf ca)) : SS B X (.Assign [.Attribute (.Name x p2) f p3] e pos) (evS B.np cf (.sFld i c k ca)) := by
  intro F H ρ σ E hr h0
  have h : Fin (km X) B F E (match evE B.np cf ca ρ with
    | .ok r ρ => (match toFz ρ r with
      | .ok d ρ => (match ρ[i]? with
        | some (.ow (.obj c' l)) => if c' = c ∧ l.length = k then .next (ρ.set i (.ow (.obj c (l ++ [d])))) else .fail
        | _ => .fail)
      | .fail => .fail)
    | .fail => .fail) := h0
  clear h0
  cases z1 : evE B.np cf ca ρ with
  | fail => simp only [z1] at h; exact h.elim
  | ok r1 ρ1 =>
    simp only [z1] at h
    cases z2 : toFz ρ1 r1 with
    | fail => simp only [z2] at h; exact h.elim
    | ok d ρ2 =>
      simp only [z2] at h
      refine gs_of (ps_fld (pe_var ho hv hd hcd) pe_ge hsw) ?_
      refine he.sd F H ρ σ _ hr ⟨d, ρ2, by show (evE B.np cf ca ρ).bind _ = _; rw [z1]; exact z2, fun v F1 H1 P1 q1 => ?_⟩
      split at h
      · rename_i c' l g0
        split at h
        · rename_i hcl
          obtain ⟨rfl, rfl⟩ := hcl
          have s0 := P1.rel.sl i
          rw [g0] at s0
          obtain ⟨q0, o0, es, g1, g2, vs, g3, g4⟩ := s0
          obtain ⟨dx, fs, rfl, i1, i2⟩ := g3.ins hc hs
          have hl : vs.length = l.length := g4.length
          have hnew : f ∉ fs.map (·.1) := by rw [i1, hl]; exact take_new hn hf
          have hfl : fs.length < 1000 := by
            have : (fs.map (·.1)).length ≤ ci.flds.length := by rw [i1, List.length_take]; omega
            rw [List.length_map] at this
            omega
          refine ⟨.ref q0, es, q0, Ca, dx, fs, rfl, g1, cl, na, hfl, ?_⟩
          refine h σ F1 _ P1.same (P1.rel.writeOwn g0 es ⟨vs ++ [v], ⟨ci, Ca, dx, hc.at_, hc.mg, .inr (.inr ⟨hs, hc.nex, _, rfl, ?_, ?_⟩)⟩, g4.append (RpL.one q1)⟩)
          · rw [putF_new hnew, List.map_append, i1, List.length_append, List.length_singleton, hl, take_snoc hf]
            rfl
          · rw [putF_new hnew, List.map_append, i2]
            rfl
        · exact h.elim
      · exact h.elim
/-- .., an instance with slots -/
theorem ss_fldS {i : Nat} {pa : Addr} {p2 p3 : Pos} (hc : ClsI X.K X.mg c ci Ca) (hs : ci.slots = true) (cl : L2.SCls X.K Ca) (sl : L2.Slt X.K Ca f k pa) (ho : X.N[i]? = some x) (hv : Vis X.env.scope x) (hd : (x == ("__debug__" : Str)) = false) (hcd : (x == ("__classdict__" : Str)) = false)
    (hsw : swapsWith e (some (.Attribute (.Name x p2) f p3)) pos.line X.env = pure false) (he : SE B X e (evE B.np cf ca)) : SS B X (.Assign [.Attribute (.Name x p2) f p3] e pos) (evS B.np cf (.sFld i c k ca)) := by
  intro F H ρ σ E hr h0
  have h : Fin (km X) B F E (match evE B.np cf ca ρ with
    | .ok r ρ => (match toFz ρ r with
      | .ok d ρ => (match ρ[i]? with
        | some (.ow (.obj c' l)) => if c' = c ∧ l.length = k then .next (ρ.set i (.ow (.obj c (l ++ [d])))) else .fail
        | _ => .fail)
      | .fail => .fail)
    | .fail => .fail) := h0
  clear h0
  cases z1 : evE B.np cf ca ρ with
  | fail => simp only [z1] at h; exact h.elim
  | ok r1 ρ1 =>
    simp only [z1] at h
    cases z2 : toFz ρ1 r1 with
    | fail => simp only [z2] at h; exact h.elim
    | ok d ρ2 =>
      simp only [z2] at h
      refine gs_of (ps_slot cl sl (pe_var ho hv hd hcd) pe_ge hsw) ?_
      refine he.sd F H ρ σ _ hr ⟨d, ρ2, by show (evE B.np cf ca ρ).bind _ = _; rw [z1]; exact z2, fun v F1 H1 P1 q1 => ?_⟩
      split at h
      · rename_i c' l g0
        split at h
        · rename_i hcl
          obtain ⟨rfl, rfl⟩ := hcl
          have s0 := P1.rel.sl i
          rw [g0] at s0
          obtain ⟨q0, o0, es, g1, g2, vs, g3, g4⟩ := s0
          obtain ⟨dx, i1, i2, i3⟩ := g3.sl hc hs
          have hl : vs.length = l.length := g4.length
          have hput : L2.putS l.length v (vs.map some) = (vs ++ [v]).map some := by
            unfold L2.putS
            rw [List.length_map, hl, show l.length + 1 - l.length = 1 by omega, List.map_append]
            show ((vs.map some) ++ [none]).set l.length (some v) = _
            rw [List.set_append_right _ _ (by rw [List.length_map]; omega), List.length_map, hl, Nat.sub_self]
            rfl
          have hat : L2.SlAt H1 q0 Ca dx (vs.map some) := by
            refine ⟨P1.rel.same _ _ i1, i2, ?_⟩
            rcases i3 with rfl | ⟨rfl, rfl⟩
            · exact .inl g1
            · exact .inr ⟨rfl, g1⟩
          refine ⟨.ref q0, es, q0, dx, vs.map some, rfl, hat, ?_⟩
          rw [hput]
          exact h σ F1 _ P1.same (P1.rel.writeOwn g0 es ⟨vs ++ [v], ⟨ci, Ca, dx, hc.at_, hc.mg, .inl ⟨hs, i1, i2, .inl rfl⟩⟩, g4.append (RpL.one q1)⟩)
        · exact h.elim
      · exact h.elim
end
end PV

/-! PvS10: calls whose arguments never change: defaults, methods, properties, new objects. -/
namespace PV
open PySem L2
/-- what is known of a default's value -/
def dvOf : V → Sl
  | .int i => .fz (.int i)
  | .bl b => .fz (.bl b)
  | .non => .fz .non
  | .str s => .fz (.str s)
  | _ => .un
theorem dvOf_ok (K : KM) (F H : Hp) (v : V) : SlOk K F H (some (dvOf v)) (some (some v)) := by
  cases v <;> first | exact trivial | exact ⟨_, rfl, rfl⟩
theorem dvOf_ow {v : V} {d : D} (h : dvOf v = .ow d) : False := by
  cases v <;> cases h
section
variable {K : KM} {B : Bs} {σ : L2.St} {F F1 F' H H1 H' : Hp} {ρ ρ1 ρ' : Rho}
theorem fzs_sl {l : List D} {vs dvs : List V} (q : RpL K F l vs) (i : Nat) : SlOk K F H (l.map Sl.fz ++ dvs.map dvOf)[i]? (σOf (vs ++ dvs))[i]? := by
  have hl := q.length
  by_cases hi : i < l.length
  · rw [List.getElem?_append_left (by rw [List.length_map]; exact hi), List.getElem?_map]
    have hd : l[i]? = some l[i] := List.getElem?_eq_getElem hi
    obtain ⟨v, hv, rv⟩ := q.get hd
    have e : (σOf (vs ++ dvs))[i]? = some (some v) := by
      show ((vs ++ dvs).map some)[i]? = _
      rw [List.getElem?_map, List.getElem?_append_left (by omega), hv]
      rfl
    rw [hd, e]
    exact ⟨v, rfl, rv⟩
  · rw [List.getElem?_append_right (by rw [List.length_map]; omega), List.length_map, List.getElem?_map]
    have e : (σOf (vs ++ dvs))[i]? = (dvs[i - l.length]?).map some := by
      show ((vs ++ dvs).map some)[i]? = _
      rw [List.getElem?_map, List.getElem?_append_right (by omega), hl]
    rw [e]
    cases dvs[i - l.length]? with
    | none => trivial
    | some v => exact dvOf_ok K F H v
theorem fzs_own {l : List D} {vs dvs : List V} {i : Nat} {p : Addr} (h : OwnAt (l.map Sl.fz ++ dvs.map dvOf) (σOf vs) i p) : False := by
  obtain ⟨d, e, _⟩ := h
  have m := List.mem_of_getElem? e
  rcases List.mem_append.mp m with m | m
  · obtain ⟨x, _, z⟩ := List.mem_map.mp m; cases z
  · obtain ⟨x, _, z⟩ := List.mem_map.mp m; exact dvOf_ow z
end
section
variable {B : Bs} {X : Cx} {e a b o : Expr} {es : List Expr} {pos p apos : Pos} {np : Nat} {cf : Nat → List Sl → CRes} {ca cb cc : C} {x f m : Str} {c k n fi : Nat} {ci : Cls} {Ca fa pa : Addr} {dvs : List V}
/-- a def that stands at fa, called with the defaults dvs -/
structure CalleeM (P : Program) (w : World) (K : PySem.W.Frag) (mg : Str → Option Value) (base : Heap) (k : Nat) (fa : Addr) (n : Nat) (dvs : List V) (res : List Sl → CRes) : Prop where
  ex : ∃ (fd : FuncData) (psn : List Str) (ds : List Value), Binds K fd psn ds ∧ Vals dvs ds ∧ FnOk P w K mg base CX0 k fa fd psn (spF ⟨K, mg⟩ n res)
theorem resO_ok {r : CRes} {ρ ρ' : Rho} {v : RV} (h : resO r ρ = .ok v ρ') : ∃ ps, r = .ok v ps ∧ ρ = ρ' := by
  unfold resO at h
  split at h
  · cases h; exact ⟨_, rfl, rfl⟩
  · cases h; exact ⟨_, rfl, rfl⟩
  · cases h
/-- the call, behind its arguments -/
theorem fzRun {F H F1 H1 : Hp} {ρ ρ1 ρ' : Rho} {σ : L2.St} {r : RV} {Q : VK} {l : List D} {vs : List V} (hr : Rel (km X) B F H ρ σ) (P : Post (km X) B σ F H ρ F1 H1 ρ1) (q : RpL (km X) F1 l vs) (hn : l.length + dvs.length = n)
    (m1 : resO (cf fi (l.map Sl.fz ++ dvs.map dvOf)) ρ1 = .ok r ρ') (kk : ∀ v F' H', Post (km X) B σ F H ρ F' H' ρ' → RvOk (km X) F' H' ρ' σ r v → Fresh H r v → Q v H') : spF (km X) n (cf fi) (vs ++ dvs) H1 Q (fun _ _ _ => False) := by
  obtain ⟨ps', hres, rfl⟩ := resO_ok m1
  refine ⟨by rw [List.length_append, q.length]; exact hn, F1, _, r, ps', ⟨P.rel.same, by rw [List.length_append, List.length_append, List.length_map, List.length_map, q.length], fun i => fzs_sl q i, fun i j q' z _ => (fzs_own z).elim⟩, hres, fun v' F' H' c => ?_⟩
  have P3 := Post.callTmp hr P (fun i q' z => (fzs_own z).elim) c
  obtain ⟨g1, g2⟩ := c.rvT hr P
  exact kk v' F' H' P3 g1 g2
/-- f(e, ..) with defaults -/
theorem se_callD (hok : CalleeM X.prog X.w X.K X.mg X.base k fa n dvs (cf fi)) (hrm : Room k X.A) (hg : Gl X x) (hmg : X.mg x = some (.ref fa)) (hkp : PySem.W.keepIn X.K (.ref fa) = true) (hdb : (x == ("__debug__" : Str)) = false) (he : starEach (e :: es) X.env = (false, eval e X.env) :: starEach es X.env) (hpl : (backTo pos (starEach es X.env)).any (·.1) = false)
    (hlen : ∀ ρ l ρ', evEs np cf ca ρ = .ok l ρ' → l.length + dvs.length = n) (ha : SL B X (e :: es) (evEs np cf ca)) : SE B X (.Call (.Name x p) (e :: es) [] pos) (evE np cf (.callD fi ca (dvs.map dvOf))) := by
  intro F H ρ σ Q hr ⟨r, ρ', hm, kk⟩
  obtain ⟨fd, psn, ds, hbd, hvd, hok⟩ := hok.ex
  obtain ⟨l, ρ1, h1, m1⟩ := bind_ok hm
  refine ge_of (pe_call hok hrm hg hmg hkp hbd hvd pass0 pa_ga hdb he hpl) (ha F H ρ σ _ hr ⟨l, ρ1, h1, fun vs F1 H1 P q => ?_⟩)
  exact fzRun hr P q (hlen _ _ _ h1) m1 kk
theorem isOb_ok {d : D} (h : isOb c d = true) : ∃ l, d = .obj c l := by
  cases d with
  | obj c' l => have := of_decide_eq_true (show decide (c' = c) = true from h); subst this; exact ⟨l, rfl⟩
  | _ => cases h
theorem meth_split {F H : Hp} {ρ ρ' : Rho} {σ : L2.St} {r : RV} {dv : List Sl} (hm : evE np cf (.meth c fi ca cb dv) ρ = .ok r ρ') : ∃ d l ρ1 l2 ρ2, ((evE np cf ca ρ).bind fun r ρ => toFz ρ r) = .ok d ρ1 ∧ d = .obj c l ∧ evEs np cf cb ρ1 = .ok l2 ρ2 ∧ resO (cf fi (.fz d :: (l2.map Sl.fz ++ dv))) ρ2 = .ok r ρ' := by
  obtain ⟨y, ρ1, h1, m1⟩ := bind_ok hm
  obtain ⟨d, ρ2, h2, m2⟩ := bind_ok m1
  split at m2
  · rename_i hob
    obtain ⟨l, rfl⟩ := isOb_ok hob
    obtain ⟨l2, ρ3, h3, m3⟩ := bind_ok m2
    exact ⟨_, l, ρ2, l2, ρ3, by rw [h1]; exact h2, rfl, h3, m3⟩
  · cases m2
/-- how a method's call is read -/
def MethEq (X : Cx) (o : Expr) (m : Str) (apos : Pos) (es : List Expr) (pos : Pos) (pl : Sem Bool) : Prop := eval (.Call (.Attribute o m apos) es [] pos) X.env = (do let ov ← eval o X.env; standAt apos.atName; let (f, first) ← holding [ov] (getMethod ov m pl); callWith pos f first (backTo pos (starEach es X.env)) (backToKw pos (keywordEach [] X.env)))
theorem ins_noF {fs : List (Str × V)} {k : Nat} (h : fs.map (·.1) = ci.flds.take k) (hn : m ∉ ci.flds) : fs.lookup m = none := by
  have h' : m ∉ fs.map (·.1) := fun z => hn (by rw [h] at z; exact List.mem_of_mem_take z)
  clear h
  induction fs with
  | nil => rfl
  | cons t fs ih =>
    obtain ⟨g, x⟩ := t
    have h2 : ¬ (m = g) ∧ m ∉ fs.map (·.1) := by simpa using h'
    unfold List.lookup
    rw [show (m == g) = false from beq_false_of_ne h2.1]
    exact ih h2.2
theorem obj_at {F H : Hp} {l : List D} {v : V} {K : KM} (hc : ClsI K.fr K.mg c ci Ca) (hs : ci.slots = false) (sm : Same F H) (q : Rp K F (.obj c l) v) : ∃ a dx fs j, v = .ref a ∧ H a = some (.ins Ca dx fs) ∧ fs.map (·.1) = ci.flds.take j := by
  obtain ⟨a, o, vs, rfl, g1, g2, g3⟩ := q
  obtain ⟨dx, fs, rfl, i1, i2⟩ := g2.ins hc hs
  exact ⟨a, dx, fs, _, rfl, sm _ _ g1, i1⟩
/-- o.m(e, ..) -/
theorem se_meth {pl : Sem Bool} (hc : ClsI X.K X.mg c ci Ca) (hs : ci.slots = false) (cl : L2.Cls X.K Ca) (hme : Meth X.K Ca m fa) (hnf : m ∉ ci.flds) (hok : CalleeM X.prog X.w X.K X.mg X.base k fa n dvs (cf fi)) (hrm : Room k X.A)
    (hst : starEach (e :: es) X.env = (false, eval e X.env) :: starEach es X.env) (hpl : (backTo pos (starEach es X.env)).any (·.1) = false) (ht : MethEq X o m apos (e :: es) pos pl)
    (hlen : ∀ ρ l ρ', evEs np cf cb ρ = .ok l ρ' → 1 + l.length + dvs.length = n) (ho : SE B X o (evE np cf ca)) (ha : SL B X (e :: es) (evEs np cf cb)) : SE B X (.Call (.Attribute o m apos) (e :: es) [] pos) (evE np cf (.meth c fi ca cb (dvs.map dvOf))) := by
  intro F H ρ σ Q hr ⟨r, ρ', hm, kk⟩
  obtain ⟨fd, psn, ds, hbd, hvd, hok⟩ := hok.ex
  obtain ⟨d, l, ρ1, l2, ρ2, h1, rfl, h2, m2⟩ := meth_split (F := F) (H := H) (σ := σ) hm
  refine ge_of (pe_meth pe_ge cl hme hok hrm hbd hvd pass0 pa_ga hst hpl ht) (ho.sd F H ρ σ _ hr ⟨_, ρ1, h1, fun v F1 H1 P1 q1 => ?_⟩)
  obtain ⟨a, dx, fs, j, rfl, g1, g2⟩ := obj_at (K := km X) hc hs P1.rel.same q1
  refine ⟨a, dx, fs, rfl, g1, ins_noF g2 hnf, ha F1 H1 ρ1 σ _ P1.rel ⟨l2, ρ2, h2, fun vs F2 H2 P2 q2 => ?_⟩⟩
  exact fzRun (l := .obj c l :: l2) (vs := V.ref a :: vs) hr (P1.trans P2) ⟨_, _, rfl, Rp.mono P2.same _ _ q1, q2⟩ (by have := hlen _ _ _ h2; rw [List.length_cons]; omega) m2 kk
/-- o.m() -/
theorem se_meth0 {pl : Sem Bool} (hc : ClsI X.K X.mg c ci Ca) (hs : ci.slots = false) (cl : L2.Cls X.K Ca) (hme : Meth X.K Ca m fa) (hnf : m ∉ ci.flds) (hok : CalleeM X.prog X.w X.K X.mg X.base k fa n dvs (cf fi)) (hrm : Room k X.A)
    (ht : MethEq X o m apos [] pos pl) (hlen : 1 + dvs.length = n) (ho : SE B X o (evE np cf ca)) : SE B X (.Call (.Attribute o m apos) [] [] pos) (evE np cf (.meth c fi ca .nil (dvs.map dvOf))) := by
  intro F H ρ σ Q hr ⟨r, ρ', hm, kk⟩
  obtain ⟨fd, psn, ds, hbd, hvd, hok⟩ := hok.ex
  obtain ⟨d, l, ρ1, l2, ρ2, h1, rfl, h2, m2⟩ := meth_split (F := F) (H := H) (σ := σ) hm
  cases h2
  refine ge_of (pe_meth0 pe_ge cl hme hok hrm hbd hvd pass0 ht) (ho.sd F H ρ σ _ hr ⟨_, ρ1, h1, fun v F1 H1 P1 q1 => ?_⟩)
  obtain ⟨a, dx, fs, j, rfl, g1, g2⟩ := obj_at (K := km X) hc hs P1.rel.same q1
  refine ⟨a, dx, fs, rfl, g1, ins_noF g2 hnf, ?_⟩
  exact fzRun (l := [.obj c l]) (vs := [V.ref a]) hr P1 (RpL.one q1) (by rw [List.length_singleton]; exact hlen) m2 kk
/-- o.f, a property -/
theorem se_prop (hc : ClsI X.K X.mg c ci Ca) (hs : ci.slots = false) (cl : L2.Cls X.K Ca) (hpr : PropOf X.K Ca f pa fa) (hok : CalleeM X.prog X.w X.K X.mg X.base k fa 1 [] (cf fi)) (hrm : Room (k + 1) X.A)
    (hab : attributeBase o f X.env (eval o X.env) = eval o X.env) (ho : SE B X o (evE np cf ca)) : SE B X (.Attribute o f pos) (evE np cf (.meth c fi ca .nil [])) := by
  intro F H ρ σ Q hr ⟨r, ρ', hm, kk⟩
  obtain ⟨fd, psn, ds, hbd, hvd, hok⟩ := hok.ex
  obtain ⟨d, l, ρ1, l2, ρ2, h1, rfl, h2, m2⟩ := meth_split (F := F) (H := H) (σ := σ) hm
  cases h2
  refine ge_of (pe_prop pe_ge cl hpr hok hrm hbd hvd pass0 hab) (ho.sd F H ρ σ _ hr ⟨_, ρ1, h1, fun v F1 H1 P1 q1 => ?_⟩)
  obtain ⟨a, dx, fs, j, rfl, g1, g2⟩ := obj_at (K := km X) hc hs P1.rel.same q1
  refine ⟨a, dx, fs, rfl, g1, ?_⟩
  exact fzRun (dvs := []) (l := [.obj c l]) (vs := [V.ref a]) hr P1 (RpL.one q1) rfl m2 kk
theorem mkO_ok {r : CRes} {ρ ρ' : Rho} {v : RV} (h : mkO r ρ = .ok v ρ') : ρ = ρ' ∧ ((∃ d ps, r = .ok (.fz .non) (.ow d :: ps) ∧ v = .ow d) ∨ ∃ d ps, r = .ok (.fz .non) (.fz d :: ps) ∧ v = .fz d) := by
  unfold mkO at h
  split at h
  · cases h; exact ⟨rfl, .inl ⟨_, _, rfl, rfl⟩⟩
  · cases h; exact ⟨rfl, .inr ⟨_, _, rfl, rfl⟩⟩
  · cases h
/-- behind the arguments of C(e, ..) -/
theorem mkRun {F H F1 H1 : Hp} {ρ ρ1 ρ' : Rho} {σ : L2.St} {r : RV} {Q : VK} {l : List D} {vs : List V} (hc : ClsI X.K X.mg c ci Ca) (hr : Rel (km X) B F H ρ σ) (P : Post (km X) B σ F H ρ F1 H1 ρ1) (q : RpL (km X) F1 l vs) (hn : 1 + l.length + dvs.length = n)
    (m1 : mkO (cf fi (.ow (.obj c []) :: (l.map Sl.fz ++ dvs.map dvOf))) ρ1 = .ok r ρ') (kk : ∀ v F' H', Post (km X) B σ F H ρ F' H' ρ' → RvOk (km X) F' H' ρ' σ r v → Fresh H r v → Q v H') (a dx : Addr) (ha : H1 a = none) (hdx : H1 dx = none) (hne : dx ≠ a) :
    spF (km X) n (cf fi) (.ref a :: (vs ++ dvs)) (upd (upd H1 dx (.own a)) a (.ins Ca dx [])) (fun v H2 => v = .non ∧ Q (.ref a) H2) (fun _ _ _ => False) := by
  have back : ∀ b, H1 b = none → H b = none := fun b hb => by
    cases z : H b with
    | none => rfl
    | some o =>
      obtain ⟨o', z'⟩ := P.dom b o z
      rw [hb] at z'
      cases z'
  have PA := P.trans (Post.new (o := HO.own a) P.rel hdx)
  have hxa : upd H1 dx (HO.own a) a = none := by rw [upd_ne (Ne.symm hne)]; exact ha
  have PB := PA.trans (Post.new (o := HO.ins Ca dx []) PA.rel hxa)
  have nf := P.rel.newFree hdx
  have nfa := P.rel.newFree ha
  have PC := PB.freezeNew hr (p := dx) (o := .own a) (by rw [upd_ne hne, upd_same]) nf.1 nf.2 (back dx hdx)
  have sm : Same F1 (upd F1 dx (.own a)) := fun b o z => by rw [upd_ne (ne_of_none z nf.1)]; exact z
  have q' := RpL.mono sm _ _ q
  obtain ⟨e1, m2⟩ := mkO_ok m1
  subst e1
  have Fa : upd F1 dx (HO.own a) a = none := by rw [upd_ne (Ne.symm hne)]; exact nfa.1
  have self : SlOk (km X) (upd F1 dx (.own a)) (upd (upd H1 dx (.own a)) a (.ins Ca dx [])) (some (.ow (.obj c []))) (some (some (V.ref a))) := by
    refine ⟨a, _, rfl, upd_same, Fa, [], ⟨ci, Ca, dx, hc.at_, hc.mg, ?_⟩, rfl⟩
    cases hs : ci.slots with
    | true => exact .inl ⟨rfl, upd_same, hne, .inr ⟨rfl, rfl⟩⟩
    | false => exact .inr (.inr ⟨rfl, hc.nex, [], rfl, rfl, rfl⟩)
  have own0 : ∀ i p, OwnAt (.ow (.obj c []) :: (l.map Sl.fz ++ dvs.map dvOf)) (σOf (V.ref a :: (vs ++ dvs))) i p → i = 0 ∧ p = a := fun i p z => by
    cases i with
    | zero =>
      obtain ⟨d, _, z⟩ := z
      cases z
      exact ⟨rfl, rfl⟩
    | succ i =>
      obtain ⟨d, z1, z2⟩ := z
      exact (fzs_own (l := l) (vs := vs ++ dvs) (dvs := dvs) (i := i) (p := p) ⟨d, by simpa using z1, by simpa [σOf] using z2⟩).elim
  have args : ArgOk (km X) (upd F1 dx (.own a)) (upd (upd H1 dx (.own a)) a (.ins Ca dx [])) (.ow (.obj c []) :: (l.map Sl.fz ++ dvs.map dvOf)) (V.ref a :: (vs ++ dvs)) := by
    refine ⟨PC.rel.same, by simp [q.length], fun i => ?_, fun i j p z1 z2 => by rw [(own0 i p z1).1, (own0 j p z2).1]⟩
    cases i with
    | zero => exact self
    | succ i => simpa [σOf] using fzs_sl (H := upd (upd H1 dx (.own a)) a (.ins Ca dx [])) (dvs := dvs) q' i
  have hlen : (V.ref a :: (vs ++ dvs)).length = n := by rw [List.length_cons, List.length_append, q.length]; omega
  have tmp : ∀ i p, OwnAt (.ow (.obj c []) :: (l.map Sl.fz ++ dvs.map dvOf)) (σOf (V.ref a :: (vs ++ dvs))) i p → H p = none ∧ ∀ j, ¬ OwnAt ρ1 σ j p := fun i p z => by
    rw [(own0 i p z).2]
    exact ⟨back a ha, nfa.2⟩
  rcases m2 with ⟨d, ps, hres, rfl⟩ | ⟨d, ps, hres, rfl⟩
  · refine ⟨hlen, _, _, _, _, args, hres, fun v F' H' c' => ?_⟩
    have P3 := Post.callTmp hr PC tmp c'
    have s0 := c'.sl 0
    obtain ⟨p', o', z1, z2, z3, z4⟩ : ∃ p o, (some (some (V.ref a)) : Option (Option V)) = some (some (.ref p)) ∧ H' p = some o ∧ F' p = none ∧ RpO (km X) F' p d o := s0
    cases z1
    exact ⟨c'.val, kk (.ref a) F' H' P3 ⟨a, o', rfl, z2, z3, z4, nfa.2⟩ fun p z => by cases z; exact back a ha⟩
  · refine ⟨hlen, _, _, _, _, args, hres, fun v F' H' c' => ?_⟩
    have P3 := Post.callTmp hr PC tmp c'
    have s0 := c'.sl 0
    obtain ⟨v', z1, z2⟩ : ∃ v, (some (some (V.ref a)) : Option (Option V)) = some (some v) ∧ Rp (km X) F' d v := s0
    cases z1
    exact ⟨c'.val, kk (.ref a) F' H' P3 z2 trivial⟩
/-- C(e, ..) -/
theorem se_make (hc : ClsI X.K X.mg c ci Ca) (hx : ci.name = x) (M : Mk X.K Ca fa) (hok : CalleeM X.prog X.w X.K X.mg X.base k fa n dvs (cf fi)) (hrm : Room (k + 1) X.A) (hg : Gl X x) (hdb : (x == ("__debug__" : Str)) = false) (he : starEach (e :: es) X.env = (false, eval e X.env) :: starEach es X.env) (hpl : (backTo pos (starEach es X.env)).any (·.1) = false)
    (hlen : ∀ ρ l ρ', evEs np cf ca ρ = .ok l ρ' → 1 + l.length + dvs.length = n) (ha : SL B X (e :: es) (evEs np cf ca)) : SE B X (.Call (.Name x p) (e :: es) [] pos) (evE np cf (.make c fi ca (dvs.map dvOf))) := by
  intro F H ρ σ Q hr ⟨r, ρ', hm, kk⟩
  obtain ⟨fd, psn, ds, hbd, hvd, hok⟩ := hok.ex
  obtain ⟨l, ρ1, h1, m1⟩ := bind_ok hm
  refine ge_of (pe_make M hok hrm hg (by rw [← hx]; exact hc.mg) hbd hvd pass0 pa_ga hdb he hpl) (ha F H ρ σ _ hr ⟨l, ρ1, h1, fun vs F1 H1 P q => fun a dx ha hdx hne => ?_⟩)
  exact mkRun hc hr P q (hlen _ _ _ h1) m1 kk a dx ha hdx hne
end
end PV

/-! PvS11: append, pop, extend of a list that a name alone holds. -/
namespace PV
open PySem L2
section
variable {K : KM} {B : Bs} {σ : L2.St} {F F1 F' H H1 H' : Hp} {ρ ρ1 ρ' : Rho}
theorem Post.write {i : Nat} {p : Addr} {d d' : D} {o' : HO} (h : Rel K B F H ρ σ) (e : ρ[i]? = some (.ow d)) (es : σ[i]? = some (some (.ref p))) (q : RpO K F p d' o') : Post K B σ F H ρ F (upd H p o') (ρ.set i (.ow d')) := by
  have oi : OwnAt ρ σ i p := ⟨d, e, es⟩
  have hi : i < ρ.length := (List.getElem?_eq_some_iff.mp e).1
  refine ⟨Same.refl F, h.writeOwn e es q, fun b x g n => by rw [upd_ne fun z => n i (by rw [z]; exact oi)]; exact g, fun b x g => ?_, fun j r ⟨d2, g1, g2⟩ => ?_, fun _ _ g _ _ => g, fun j ⟨d2, l⟩ => ?_⟩
  · by_cases hb : b = p
    · subst hb; exact ⟨_, upd_same⟩
    · rw [upd_ne hb]; exact ⟨x, g⟩
  · by_cases hj : j = i
    · subst hj
      rw [es] at g2
      cases g2
      exact oi
    · rw [List.getElem?_set_ne (Ne.symm hj)] at g1
      exact ⟨d2, g1, g2⟩
  · by_cases hj : j = i
    · subst hj
      exact ⟨d', .inr (List.getElem?_set_self hi)⟩
    · unfold Live
      rw [List.getElem?_set_ne (Ne.symm hj)]
      exact ⟨d2, l⟩
theorem isOwL_ok {s : Option Sl} (h : isOwL s = true) : ∃ l, s = some (.ow (.lst l)) := by
  unfold isOwL at h
  split at h
  · exact ⟨_, rfl⟩
  · cases h
theorem Rel.owL {o : Nat} {l : List D} (h : Rel K B F H ρ σ) (e : ρ[o]? = some (.ow (.lst l))) : ∃ p vs, σ[o]? = some (some (.ref p)) ∧ H p = some (.lst vs) ∧ RpL K F l vs := by
  have s := h.sl o
  rw [e] at s
  obtain ⟨p, o0, es, g1, g2, vs, rfl, g3⟩ := s
  exact ⟨p, vs, es, g1, g3⟩
end
section
variable {B : Bs} {X : Cx} {e : Expr} {pos apos p2 : Pos} {np : Nat} {cf : Nat → List Sl → CRes} {ca : C} {x : Str} {o : Nat}
/-- a list's name is read, as a method's receiver -/
structure NmOk (X : Cx) (o : Nat) (x m : Str) (p2 apos pos : Pos) : Prop where
  ho : X.N[o]? = some x
  hv : Vis X.env.scope x
  hd : (x == ("__debug__" : Str)) = false
  hcd : (x == ("__classdict__" : Str)) = false
  hb : attributeBase (.Name x p2) m X.env (eval (.Name x p2) X.env) = eval (.Name x p2) X.env
  hl : (apos.endLine == pos.line) = true
theorem se_lApp (n : NmOk X o x "append" p2 apos pos) (hs : starEach [e] X.env = (false, eval e X.env) :: starEach [] X.env) (ha : SE B X e (evE np cf ca)) :
    SE B X (.Call (.Attribute (.Name x p2) "append" apos) [e] [] pos) (evE np cf (.lApp o ca)) := by
  intro F H ρ σ Q hr ⟨r, ρ', hm, k⟩
  have hm : (if isOwL ρ[o]? then (evE np cf ca ρ).bind fun r ρ => (toFz ρ r).bind fun d ρ => appR o d ρ[o]? ρ else .fail) = .ok r ρ' := hm
  split at hm
  · rename_i how
    obtain ⟨l0, e0⟩ := isOwL_ok how
    obtain ⟨y, ρ1, h1, m1⟩ := bind_ok hm
    obtain ⟨d, ρ2, h2, m2⟩ := bind_ok m1
    obtain ⟨p, vs0, es, g1, g2⟩ := hr.owL e0
    refine ge_of (pe_bm PySem.F.plainAttrs_list PySem.F.slot_list_append PySem.F.type_list_append mt_append (pe_var n.ho n.hv n.hd n.hcd) pa_ga n.hb (by rw [hs]; rfl) n.hl hs rfl) ?_
    refine ⟨.ref p, es, .inl ⟨rfl, vs0, SqL.of g1⟩, ga_one hs (ha.sd F H ρ σ _ hr ⟨d, ρ2, by show (evE np cf ca ρ).bind _ = _; rw [h1]; exact h2, fun v F1 H1 P q => ?_⟩)⟩
    unfold appR at m2
    split at m2
    · rename_i l el
      split at m2
      · rename_i hlt
        cases m2
        obtain ⟨p', vs, es', g3, g4⟩ := P.rel.owL el
        rw [es] at es'
        cases es'
        refine ⟨p, vs, v, rfl, rfl, g3, Nat.lt_of_lt_of_le (by rw [g4.length]; exact hlt) (maxLen_le (Nat.le_refl maxLen)), ?_⟩
        exact k _ _ _ (P.trans (Post.write P.rel el es ⟨_, rfl, g4.append (RpL.one q)⟩)) rfl trivial
      · cases m2
    · cases m2
  · cases hm
theorem se_lPop (n : NmOk X o x "pop" p2 apos pos) : SE B X (.Call (.Attribute (.Name x p2) "pop" apos) [] [] pos) (evE np cf (.lPop o)) := by
  intro F H ρ σ Q hr ⟨r, ρ', hm, k⟩
  have hm : popR o ρ[o]? ρ = .ok r ρ' := hm
  unfold popR at hm
  split at hm
  · rename_i l el
    split at hm
    · rename_i d hd
      cases hm
      obtain ⟨p, vs, es, g1, g2⟩ := hr.owL el
      refine ge_of (pe_bm0 PySem.F.plainAttrs_list PySem.F.slot_list_pop PySem.F.type_list_pop mt_pop (pe_var n.ho n.hv n.hd n.hcd) n.hb n.hl) ?_
      obtain ⟨v, hv, q⟩ := g2.get hd
      refine ⟨.ref p, es, .inl ⟨rfl, vs, SqL.of g1⟩, p, vs, v, rfl, rfl, g1, by rw [g2.length]; exact hv, ?_⟩
      refine k _ _ _ (Post.write hr el es ⟨_, rfl, ?_⟩) q trivial
      rw [List.dropLast_eq_take, List.dropLast_eq_take, g2.length]
      exact g2.take _
    · cases hm
  · cases hm
theorem RpL.erase {K : KM} {F : Hp} : ∀ {l : List D} {vs : List V} (i : Nat), RpL K F l vs → RpL K F (l.eraseIdx i) (vs.eraseIdx i)
  | [], _, _, h => by rw [show _ = [] from h]; exact rfl
  | d :: l, _, 0, h => by
    obtain ⟨v, r, rfl, h1, h2⟩ := h
    exact h2
  | d :: l, _, i + 1, h => by
    obtain ⟨v, r, rfl, h1, h2⟩ := h
    exact ⟨v, _, rfl, h1, RpL.erase i h2⟩
theorem se_lPopAt (n : NmOk X o x "pop" p2 apos pos) (hs : starEach [e] X.env = (false, eval e X.env) :: starEach [] X.env) (ha : SE B X e (evE np cf ca)) :
    SE B X (.Call (.Attribute (.Name x p2) "pop" apos) [e] [] pos) (evE np cf (.lPopAt o ca)) := by
  intro F H ρ σ Q hr ⟨r, ρ', hm, k⟩
  have hm : (if isOwL ρ[o]? then (evE np cf ca ρ).bind fun x ρ => popAtR o x ρ[o]? ρ else .fail) = .ok r ρ' := hm
  split at hm
  · rename_i how
    obtain ⟨l0, e0⟩ := isOwL_ok how
    obtain ⟨y, ρ1, h1, m1⟩ := bind_ok hm
    obtain ⟨p, vs0, es, g1, g2⟩ := hr.owL e0
    refine ge_of (pe_bm PySem.F.plainAttrs_list PySem.F.slot_list_pop PySem.F.type_list_pop mt_popAt (pe_var n.ho n.hv n.hd n.hcd) pa_ga n.hb (by rw [hs]; rfl) n.hl hs rfl) ?_
    refine ⟨.ref p, es, .inl ⟨rfl, vs0, SqL.of g1⟩, ga_one hs (ha F H ρ σ _ hr ⟨y, ρ1, h1, fun v F1 H1 P q fr => ?_⟩)⟩
    clear fr
    unfold popAtR at m1
    split at m1
    · rename_i i l el
      split at m1
      · rename_i hlt
        split at m1
        · rename_i j hj
          split at m1
          · rename_i d hd
            cases m1
            obtain ⟨p', vs, es', g3, g4⟩ := P.rel.owL el
            rw [es] at es'
            cases es'
            obtain ⟨w, hw, qw⟩ := g4.get hd
            obtain ⟨k1, k2, k3, k4⟩ := ixN_seq (show ixN l.length i = some j from hj)
            unfold maxLen at hlt
            refine ⟨p, vs, i, j, w, rfl, by rw [show v = V.int i from q], g3, by omega, by omega, by rw [g4.length]; exact k1, hw, ?_⟩
            exact k _ _ _ (P.trans (Post.write P.rel el es ⟨_, rfl, g4.erase j⟩)) qw trivial
          · cases m1
        · cases m1
      · cases m1
    · cases m1
  · cases hm
theorem se_lExt (n : NmOk X o x "extend" p2 apos pos) (hs : starEach [e] X.env = (false, eval e X.env) :: starEach [] X.env) (ha : SE B X e (evE np cf ca)) :
    SE B X (.Call (.Attribute (.Name x p2) "extend" apos) [e] [] pos) (evE np cf (.lExt o ca)) := by
  intro F H ρ σ Q hr ⟨r, ρ', hm, k⟩
  have hm : (if isOwL ρ[o]? then (evE np cf ca ρ).bind fun x ρ => extR o (der ρ x) ρ[o]? ρ else .fail) = .ok r ρ' := hm
  split at hm
  · rename_i how
    obtain ⟨l0, e0⟩ := isOwL_ok how
    obtain ⟨y, ρ1, h1, m1⟩ := bind_ok hm
    obtain ⟨p, vs0, es, g1, g2⟩ := hr.owL e0
    refine ge_of (pe_bm PySem.F.plainAttrs_list PySem.F.slot_list_extend PySem.F.type_list_extend mt_extend (pe_var n.ho n.hv n.hd n.hcd) pa_ga n.hb (by rw [hs]; rfl) n.hl hs rfl) ?_
    refine ⟨.ref p, es, .inl ⟨rfl, vs0, SqL.of g1⟩, ga_one hs (ha F H ρ σ _ hr ⟨y, ρ1, h1, fun v F1 H1 P q _ => ?_⟩)⟩
    unfold extR at m1
    split at m1
    · rename_i m l em el
      split at m1
      · rename_i hlt
        cases m1
        obtain ⟨p', vs, es', g3, g4⟩ := P.rel.owL el
        rw [es] at es'
        cases es'
        obtain ⟨b, ws, rfl, b1, b2⟩ := (der_ct P.rel q em).lst P.rel.same
        refine ⟨p, b, vs, ws, rfl, rfl, g3, b1, by rw [g4.length, b2.length]; exact maxLen_le hlt, ?_⟩
        exact k _ _ _ (P.trans (Post.write P.rel el es ⟨_, rfl, g4.append b2⟩)) rfl trivial
      · cases m1
    · cases m1
  · cases hm
end
end PV

/-! PvS12: isinstance with an own class. -/
namespace PV
open PySem L2
def tyNames : List String := ["NoneType", "bool", "int", "str", "list", "tuple", "dict"]
/-- what isinstance asks of an own class -/
structure OwnTy (K : PySem.W.Frag) (C : Addr) : Prop where
  ha : PySem.W.findIn K (.ref C) "__class__" = some (some (.builtin "object.__class__"))
  hn : PySem.W.specialIn K (.builtin "object.__class__") "__get__" = some (some (.builtin "getset_descriptor.__get__"))
  ht : PySem.W.takesIn K (.builtin "object.__class__") = some true
  hm : PySem.W.mroIn K C (.type "object") = some true
/-- the class at Ca is asked for: what every other value says -/
structure IsiT (K : PySem.W.Frag) (mg : Str → Option Value) (c : Nat) (Ca : Addr) : Prop where
  ty : ∀ n ∈ tyNames, PySem.W.kitOne K (.type n) (.ref Ca) = some false
  ow : ∀ c' ci', clsT[c']? = some ci' → ci'.exc = false → ∃ C', mg ci'.name = some (.ref C') ∧ PySem.W.kitOne K (.ref C') (.ref Ca) = some (decide (c' = c)) ∧ OwnTy K C' ∧ (ci'.slots = false → L2.Cls K C') ∧ (ci'.slots = true → L2.SCls K C')
def rIsiV (K : PySem.W.Frag) : List V → Hp → VK → Prop := fun xs H Q => ∃ (a Ca C dx : Addr) (vs : List (Option V)) (b : Bool), xs = [V.ref a, V.ref Ca] ∧ L2.SlAt H a C dx vs ∧ L2.SCls K C ∧ OwnTy K C ∧ PySem.W.kitOne K (.ref C) (.ref Ca) = some b ∧ Q (.bl b) H
theorem call_isiV {X : Cx} : CallR X (.builtin "isinstance") (rIsiV X.K) := by
  intro pins s σ H xs us Q I r0 ⟨a, Ca, C, dx, vs, b, ex, hsl, hc, hi, hk, q⟩
  subst ex
  obtain ⟨u1, u2, rfl, r1, r2⟩ := r0.two
  cases (show u1 = Value.ref a from r1); cases (show u2 = Value.ref Ca from r2)
  obtain ⟨sl, od, _, _, J⟩ := slAt_get I hsl
  exact PySem.W.kia_one (OwX.kitx_slt hc.ic hc.pg hi.ha hi.hn hi.ht hi.hm) I.kIn J hk (fun z => nomatch z) fun tk => ⟨.bl b, H, I.tok _, rfl, q⟩
section
variable {B : Bs} {X : Cx} {a : Expr} {pos p p2 : Pos} {np : Nat} {cf : Nat → List Sl → CRes} {ca : C} {x : Str} {c : Nat} {Ca : Addr}
theorem isiC_ok {d : D} {b : Bool} (T : IsiT X.K X.mg c Ca) (h : isiCD c d = some b) : ∃ rc, CallR X (.builtin "isinstance") rc ∧ ∀ (B : Bs) (σ : L2.St) (v : V) (F H : Hp) (ρ : Rho) (Q : VK), Rel (km X) B F H ρ σ → Ct (km X) F H d v → Q (.bl b) H → rc [v, .ref Ca] H Q := by
  have go : ∀ (n : String), n ∈ tyNames → b = false → (∀ (B : Bs) (σ : L2.St) (v : V) (F H : Hp) (ρ : Rho), Rel (km X) B F H ρ σ → Ct (km X) F H d v → TyX X.K H v (.type n)) → ∃ rc, CallR X (.builtin "isinstance") rc ∧ ∀ (B : Bs) (σ : L2.St) (v : V) (F H : Hp) (ρ : Rho) (Q : VK), Rel (km X) B F H ρ σ → Ct (km X) F H d v → Q (.bl b) H → rc [v, .ref Ca] H Q := by
    intro n hn hb ty
    subst hb
    exact ⟨_, call_isi, fun B σ v F H ρ Q hr hv q => ⟨v, .ref Ca, .type n, .ref Ca, false, rfl, .own Ca, ty B σ v F H ρ hr hv, T.ty n hn, q⟩⟩
  cases d with
  | non => exact go "NoneType" (by decide) (Option.some.inj h).symm fun B σ v F H ρ hr hv => by rw [hv.non]; exact .base .non
  | bl k => exact go "bool" (by decide) (Option.some.inj h).symm fun B σ v F H ρ hr hv => by rw [hv.bl]; exact .base (.bl k)
  | int k => exact go "int" (by decide) (Option.some.inj h).symm fun B σ v F H ρ hr hv => by rw [hv.int]; exact .base (.int k)
  | str k => exact go "str" (by decide) (Option.some.inj h).symm fun B σ v F H ρ hr hv => by rw [hv.str]; exact .base (.str k)
  | lst l => exact go "list" (by decide) (Option.some.inj h).symm fun B σ v F H ρ hr hv => by obtain ⟨a, vs, rfl, g1, g2⟩ := hv.lst hr.same; exact .base (.lst g1)
  | tup l => exact go "tuple" (by decide) (Option.some.inj h).symm fun B σ v F H ρ hr hv => by obtain ⟨a, vs, rfl, g1, g2⟩ := hv.tup hr.same; exact .base (.tup g1)
  | dct ks l =>
    refine go "dict" (by decide) (Option.some.inj h).symm fun B σ v F H ρ hr hv => ?_
    obtain ⟨a, kvs, rfl, g, _⟩ := hv.dct hr.same
    rcases g with g | ⟨od, g⟩
    · exact .base (.dK g)
    · exact .fDict g
  | dcT ks l => cases h
  | scr l => cases h
  | obj c' l =>
    have h' : (match clsT[c']? with | some ci => if ci.exc then none else some (decide (c' = c)) | none => none) = some b := h
    clear h
    cases hci : clsT[c']? with
    | none => rw [hci] at h'; cases h'
    | some ci =>
      rw [hci] at h'
      have hne : ci.exc = false := by
        cases z : ci.exc with
        | false => rfl
        | true =>
          have h2 : (if ci.exc = true then none else some (decide (c' = c))) = some b := h'
          rw [z] at h2
          cases h2
      have hb : b = decide (c' = c) := by
        have h2 : (if ci.exc = true then none else some (decide (c' = c))) = some b := h'
        rw [hne] at h2
        exact (Option.some.inj h2).symm
      subst hb
      obtain ⟨C', hmg, hk, ot, h1, h2⟩ := T.ow c' ci hci hne
      have hc : ClsI X.K X.mg c' ci C' := ⟨hci, hmg, hne⟩
      cases hs : ci.slots with
      | false =>
        refine ⟨_, call_isi, fun B σ v F H ρ Q hr hv q => ?_⟩
        obtain ⟨a, o, vs, rfl, g1, g2, g3⟩ := hv.obj hr.same
        obtain ⟨dx, fs, rfl, _, _⟩ := ObO.ins (K := km X) g2 hc hs
        exact ⟨.ref a, .ref Ca, .ref C', .ref Ca, _, rfl, .own Ca, .base (.ins g1 (h1 hs) ot.ha ot.hn ot.ht ot.hm), hk, q⟩
      | true =>
        refine ⟨_, call_isiV, fun B σ v F H ρ Q hr hv q => ?_⟩
        obtain ⟨a, o, vs, rfl, g1, g2, g3⟩ := hv.obj hr.same
        obtain ⟨dx, i1, i2, i3⟩ := ObO.sl (K := km X) g2 hc hs
        refine ⟨a, Ca, C', dx, vs.map some, _, rfl, ⟨hr.same _ _ i1, i2, ?_⟩, h2 hs, ot, hk, q⟩
        rcases i3 with rfl | ⟨rfl, rfl⟩
        · exact .inl g1
        · exact .inr ⟨rfl, g1⟩
theorem se_isiC (T : IsiT X.K X.mg c Ca) (hg : Gl X "isinstance") (hm : X.mg "isinstance" = none) (hgt : Gl X x) (hmt : X.mg x = some (.ref Ca)) (hdb : (x == ("__debug__" : Str)) = false)
    (hs : starEach [a, .Name x p2] X.env = (false, eval a X.env) :: starEach [.Name x p2] X.env) (ha : SE B X a (evE np cf ca)) : SE B X (.Call (.Name "isinstance" p) [a, .Name x p2] [] pos) (evE np cf (.isiC c ca)) := by
  intro F H ρ σ Q hr ⟨r, ρ', hm', k⟩
  obtain ⟨z, ρ1, h1, m1⟩ := bind_ok hm'
  obtain ⟨b', ρ2, h2, m2⟩ := bind_ok m1
  obtain ⟨ho, e0⟩ := ofO_ok h2
  subst e0
  cases m2
  obtain ⟨d, e1, e2⟩ := obind_some ho
  obtain ⟨rc, ok, run⟩ := isiC_ok T e2
  refine ge_of (pe_callB ok hg hm (by decide +kernel) (pa_cons pe_ge (pa_cons (pe_glob (v := V.ref Ca) hgt hmt rfl hdb) pa_nil rfl) hs) (by decide) (by decide) hs rfl) ?_
  refine ha F H ρ σ _ hr ⟨z, _, h1, fun v F1 H1 P q f => ?_⟩
  exact run B σ v F1 H1 _ Q P.rel (der_ct P.rel q e1) (k _ F1 H1 P rfl trivial)
end
end PV

/-! PvS13: x in o, x not in o by an own __contains__. -/
namespace PV
open PySem L2
section
variable {X : Cx} {C f : Addr} {k : Nat} {fd : FuncData} {ps : List Str} {sp : Sp}
def rInO (C : Addr) (sp : Sp) (g : Bool → Bool) : R2 := fun y x H Q => ∃ a dx fs, x = .ref a ∧ H a = some (.ins C dx fs) ∧ sp [x, y] H (fun z H' => ∃ b, z = .bl b ∧ Q (.bl (g b)) H') (fun _ _ _ => False)
theorem op_inO (hs : PySem.W.findIn X.K (.ref C) "__contains__" = some (some (.ref f))) (hf : PySem.W.isFn X.K (.ref f) = true) (F : FnOk X.prog X.w X.K X.mg X.base CX0 k f fd ps sp) (hr : Room k X.A) (hb : Binds X.K fd ps []) : OpR X (compareOp .In) (rInO C sp id) := by
  intro pins s σ H y x v u Q I ry rx ⟨a, dx, fs, ex, ea, q⟩
  subst ex
  cases (show u = Value.ref a from rx)
  obtain ⟨mA, O, _⟩ := ins_get I.hok ea
  obtain ⟨od, J, _⟩ := O.look
  obtain ⟨m, hF⟩ := I.fr
  refine PySem.W.in_K hF I.ok.mod.kin J hs hf (wpAny_mono (run_fn (us := [.ref a, v]) (vs := [.ref a, y]) F hr hb .nil pass0 I (.cons rfl (.cons ry .nil)) q) (fun w s' z => ?_) fun _ _ x => x)
  obtain ⟨z', H', I', rz, b, rfl, qz⟩ := z
  cases (show w = Value.bool b from rz)
  exact wpAny_pure ⟨.bl b, H', I', rfl, qz⟩
theorem op_notinO (hs : PySem.W.findIn X.K (.ref C) "__contains__" = some (some (.ref f))) (hf : PySem.W.isFn X.K (.ref f) = true) (F : FnOk X.prog X.w X.K X.mg X.base CX0 k f fd ps sp) (hr : Room k X.A) (hb : Binds X.K fd ps []) : OpR X (compareOp .NotIn) (rInO C sp not) := by
  intro pins s σ H y x v u Q I ry rx ⟨a, dx, fs, ex, ea, q⟩
  subst ex
  cases (show u = Value.ref a from rx)
  obtain ⟨mA, O, _⟩ := ins_get I.hok ea
  obtain ⟨od, J, _⟩ := O.look
  obtain ⟨m, hF⟩ := I.fr
  refine PySem.W.notIn_K hF I.ok.mod.kin J hs hf (wpAny_mono (run_fn (us := [.ref a, v]) (vs := [.ref a, y]) F hr hb .nil pass0 I (.cons rfl (.cons ry .nil)) q) (fun w s' z => ?_) fun _ _ x => x)
  obtain ⟨z', H', I', rz, b, rfl, qz⟩ := z
  cases (show w = Value.bool b from rz)
  exact wpAny_pure ⟨.bl (!b), H', I', rfl, qz⟩
end
section
variable {B : Bs} {X : Cx} {a b : Expr} {pos : Pos} {np : Nat} {cf : Nat → List Sl → CRes} {ca cb : C} {c k fi : Nat} {ci : Cls} {Ca fa : Addr}
theorem inO_split {ng : Bool} {ρ ρ' : Rho} {r : RV} (hm : evE np cf (.inO ng c fi ca cb) ρ = .ok r ρ') : ∃ d ρ1 l ρ2 b, ((evE np cf ca ρ).bind fun r ρ => toFz ρ r) = .ok d ρ1 ∧ ((evE np cf cb ρ1).bind fun r ρ => toFz ρ r) = .ok (.obj c l) ρ2 ∧ resO (cf fi [.fz (.obj c l), .fz d]) ρ2 = .ok (.fz (.bl b)) ρ' ∧ r = .fz (.bl (if ng then !b else b)) := by
  obtain ⟨y, ρ1, h1, m1⟩ := bind_ok hm
  obtain ⟨d, ρ2, h2, m2⟩ := bind_ok m1
  obtain ⟨z, ρ3, h3, m3⟩ := bind_ok m2
  obtain ⟨o, ρ4, h4, m4⟩ := bind_ok m3
  split at m4
  · rename_i hob
    obtain ⟨l, rfl⟩ := isOb_ok hob
    obtain ⟨w, ρ5, h5, m5⟩ := bind_ok m4
    unfold ngR at m5
    split at m5
    · rename_i b0
      cases m5
      exact ⟨d, ρ2, l, ρ4, b0, by rw [h1]; exact h2, by rw [h3]; exact h4, h5, rfl⟩
    · cases m5
  · cases m4
theorem inO_run {ng : Bool} {F H F1 H1 F2 H2 : Hp} {ρ ρ1 ρ2 ρ' : Rho} {σ : L2.St} {d : D} {l : List D} {b0 : Bool} {vy vx : V} {Q : VK} (hc : ClsI X.K X.mg c ci Ca) (hs : ci.slots = false) (hr : Rel (km X) B F H ρ σ) (P1 : Post (km X) B σ F H ρ F1 H1 ρ1) (q1 : Rp (km X) F1 d vy) (P2 : Post (km X) B σ F1 H1 ρ1 F2 H2 ρ2) (q2 : Rp (km X) F2 (.obj c l) vx)
    (m : resO (cf fi [.fz (.obj c l), .fz d]) ρ2 = .ok (.fz (.bl b0)) ρ') (k : ∀ F' H', Post (km X) B σ F H ρ F' H' ρ' → Q (.bl (if ng then !b0 else b0)) H') : rInO Ca (spF (km X) 2 (cf fi)) (if ng then not else id) vy vx H2 Q := by
  obtain ⟨a, dx, fs, j, rfl, g1, _⟩ := obj_at (K := km X) hc hs P2.rel.same q2
  refine ⟨a, dx, fs, rfl, g1, ?_⟩
  refine fzRun (dvs := []) (l := [.obj c l, d]) (vs := [V.ref a, vy]) hr (P1.trans P2) ⟨_, _, rfl, q2, RpL.one (Rp.mono P2.same _ _ q1)⟩ rfl m fun v F' H' P q _ => ⟨b0, q, ?_⟩
  have := k F' H' P
  cases ng <;> exact this
theorem se_inO (ng : Bool) (hc : ClsI X.K X.mg c ci Ca) (hs : ci.slots = false) (hfi : PySem.W.findIn X.K (.ref Ca) "__contains__" = some (some (.ref fa))) (hfn : PySem.W.isFn X.K (.ref fa) = true) (hok : CalleeM X.prog X.w X.K X.mg X.base k fa 2 [] (cf fi)) (hrm : Room k X.A) (hm : behindInMarks (if ng then CmpOp.NotIn else .In) b = false)
    (ha : SE B X a (evE np cf ca)) (hb : SE B X b (evE np cf cb)) : SE B X (.Compare a [if ng then CmpOp.NotIn else .In] [b] pos) (evE np cf (.inO ng c fi ca cb)) := by
  intro F H ρ σ Q hr ⟨r, ρ', hm', kk⟩
  obtain ⟨fd, psn, ds, hbd, hvd, hok⟩ := hok.ex
  cases hvd
  obtain ⟨d, ρ1, l, ρ2, b0, h1, h2, h3, rfl⟩ := inO_split hm'
  have op : OpR X (compareOp (if ng then CmpOp.NotIn else .In)) (rInO Ca (spF (km X) 2 (cf fi)) (if ng then not else id)) := by
    cases ng
    · exact op_inO hfi hfn hok hrm hbd
    · exact op_notinO hfi hfn hok hrm hbd
  refine ge_of (pe_cmpR op pe_ge pe_ge hm) (ha.sd F H ρ σ _ hr ⟨d, ρ1, h1, fun vy F1 H1 P1 q1 => hb.sd F1 H1 ρ1 σ _ P1.rel ⟨_, ρ2, h2, fun vx F2 H2 P2 q2 => ?_⟩⟩)
  exact inO_run (ng := ng) hc hs hr P1 q1 P2 q2 h3 fun F' H' P => kk _ F' H' P rfl trivial
theorem st_inO (ng : Bool) (hc : ClsI X.K X.mg c ci Ca) (hs : ci.slots = false) (hfi : PySem.W.findIn X.K (.ref Ca) "__contains__" = some (some (.ref fa))) (hfn : PySem.W.isFn X.K (.ref fa) = true) (hok : CalleeM X.prog X.w X.K X.mg X.base k fa 2 [] (cf fi)) (hrm : Room k X.A) (hm : behindInMarks (if ng then CmpOp.NotIn else .In) b = false)
    (ha : SE B X a (evE np cf ca)) (hb : SE B X b (evE np cf cb)) : ST B X (.Compare a [if ng then CmpOp.NotIn else .In] [b] pos) (evT np cf (.tVal (.inO ng c fi ca cb))) := by
  intro F H ρ σ Q hr ⟨r, ρ', hm', kk⟩
  obtain ⟨fd, psn, ds, hbd, hvd, hok⟩ := hok.ex
  cases hvd
  obtain ⟨w, ρ0, h0, m0⟩ := bind_ok hm'
  obtain ⟨d, ρ1, l, ρ2, b0, h1, h2, h3, rfl⟩ := inO_split h0
  cases m0
  have op : OpR X (compareOp (if ng then CmpOp.NotIn else .In)) (rInO Ca (spF (km X) 2 (cf fi)) (if ng then not else id)) := by
    cases ng
    · exact op_inO hfi hfn hok hrm hbd
    · exact op_notinO hfi hfn hok hrm hbd
  refine gt_of (pt_cmpR op pe_ge pe_ge hm) (ha.sd F H ρ σ _ hr ⟨d, ρ1, h1, fun vy F1 H1 P1 q1 => hb.sd F1 H1 ρ1 σ _ P1.rel ⟨_, ρ2, h2, fun vx F2 H2 P2 q2 => ?_⟩⟩)
  exact inO_run (ng := ng) hc hs hr P1 q1 P2 q2 h3 fun F' H' P => ⟨_, rfl, kk F' H' P⟩
end
end PV

/-! PvT: the same rules with their side conditions filled in by rfl. -/
namespace PV
open PySem L2
/-- which names are the built-ins still -/
def Blts (mg : Str → Option Value) (l : List Str) : Prop := ∀ x ∈ l, mg x = none
theorem Blts.at {mg : Str → Option Value} {l : List Str} (h : Blts mg l) (x : Str) (hx : l.elem x = true) : mg x = none := h x (by simpa using hx)
section
variable {B : Bs} {X : Cx} {e a b c tg iter elt : Expr} {es ifs : List Expr} {pos pos' p : Pos} {np : Nat} {cf : Nat → List Sl → CRes} {ca cb cc ct ci cel cl ch : C} {x y : Str} {bl : List Str} {st : Stmt} {sts body : List Stmt}
theorem t_slot (i : Nat) (hN : X.N[i]? = some x := by rfl) (hv : Vis X.env.scope x := by first | exact .inl rfl | exact .inr (.inl rfl) | exact .inr (.inr rfl)) (hd : (x == ("__debug__" : Str)) = false := by rfl) (hcd : (x == ("__classdict__" : Str)) = false := by rfl) :
    SE B X (.Name x pos) (evE np cf (.slot i)) := se_slot hN hv hd hcd
theorem t_glob {v : V} {u : Value} {d : D} (hm : X.mg x = some u) (r : RelV v u) (q : ∀ F, Rp (km X) F d v) (hg : Gl X x := by rfl) (hd : (x == ("__debug__" : Str)) = false := by rfl) : SE B X (.Name x pos) (evE np cf (.con d)) := se_c (pe_glob hg hm r hd) q
theorem t_cmp {op : CmpOp} (hu : X.A.units + 65 < cLine) (ha : SE B X a (evE np cf ca)) (hb : SE B X b (evE np cf cb)) (hm : behindInMarks op b = false := by rfl) : SE B X (.Compare a [op] [b] pos) (evE np cf (.cmp op ca cb)) := se_cmp hu ha hb hm
theorem t_chain {op op' : CmpOp} (hu : X.A.units + 65 < cLine) (ha : SE B X a (evE np cf ca)) (hb : SE B X b (evE np cf cb)) (hc : SE B X c (evE np cf cc)) (hl : lastMarks [op, op'] [b, c] = false := by rfl) : SE B X (.Compare a [op, op'] [b, c] pos) (evE np cf (.chain op op' ca cb cc)) := se_chain hu ha hb hc hl
theorem tt_cmp {op : CmpOp} (hu : X.A.units + 65 < cLine) (ha : SE B X a (evE np cf ca)) (hb : SE B X b (evE np cf cb)) (hm : behindInMarks op b = false := by rfl) : ST B X (.Compare a [op] [b] pos) (evT np cf (.tVal (.cmp op ca cb))) := st_cmp hu ha hb hm
theorem tt_chain {op op' : CmpOp} (hu : X.A.units + 65 < cLine) (ha : SE B X a (evE np cf ca)) (hb : SE B X b (evE np cf cb)) (hc : SE B X c (evE np cf cc)) (hl : lastMarks [op, op'] [b, c] = false := by rfl) : ST B X (.Compare a [op, op'] [b, c] pos) (evT np cf (.tVal (.chain op op' ca cb cc))) := st_chain hu ha hb hc hl
theorem tt_val (ha : SE B X a (evE np cf ca)) (he : ∀ whole, isTrue a X.env whole = (do let v ← whole; standAt a.pos; holding [v] (truthy v)) := by intro _; rfl) : ST B X a (evT np cf (.tVal ca)) := st_val ha he
theorem tl_cons (ha : SE B X a (evE np cf ca)) (hb : SL B X es (evEs np cf cb)) (hs : starEach (a :: es) X.env = (false, eval a X.env) :: starEach es X.env := by rfl) : SL B X (a :: es) (evEs np cf (.cons ca cb)) := sl_cons ha hb hs
theorem t_sub (hu : X.A.units + 65 < cLine) (ha : SE B X a (evE np cf ca)) (hb : SE B X b (evE np cf cb)) (hs : PlainIx b := by exact fun _ _ => rfl) : SE B X (.Subscript a b pos) (evE np cf (.sub ca cb)) := se_sub hu ha hb hs
theorem t_bi {bi : Bi} (hc : X.calm = true) (hb : Blts X.mg bl) (ha : SE B X a (evE np cf ca)) (hx : bl.elem x = true := by decide +kernel) (hg : Gl X x := by rfl) (hv : bootBuiltins x = some (biV bi) := by decide +kernel) (hn : x ≠ "__name__" := by decide) (hdb : (x == ("__debug__" : Str)) = false := by rfl)
    (hs : starEach [a] X.env = (false, eval a X.env) :: starEach [] X.env := by rfl) : SE B X (.Call (.Name x p) [a] [] pos) (evE np cf (.bi bi ca)) := se_bi hc hg (hb.at x hx) hv hn hdb hs ha
theorem t_bi2 {mx : Bool} (hc : X.calm = true) (hbl : Blts X.mg bl) (ha : SE B X a (evE np cf ca)) (hb : SE B X b (evE np cf cb)) (hx : bl.elem x = true := by decide +kernel) (hg : Gl X x := by rfl) (hv : bootBuiltins x = some (.builtin (if mx then "max" else "min")) := by decide +kernel) (hn : x ≠ "__name__" := by decide) (hdb : (x == ("__debug__" : Str)) = false := by rfl)
    (hs : starEach [a, b] X.env = (false, eval a X.env) :: starEach [b] X.env := by rfl) (hs' : starEach [b] X.env = (false, eval b X.env) :: starEach [] X.env := by rfl) (hpl : (backTo pos (starEach [b] X.env)).any (·.1) = false := by rfl) :
    SE B X (.Call (.Name x p) [a, b] [] pos) (evE np cf (.bi2 mx ca cb)) := se_bi2 hc hg (hbl.at x hx) hv hn hdb hs hs' hpl ha hb
theorem t_isi {t : Ty} {p2 : Pos} (hb : Blts X.mg bl) (ha : SE B X a (evE np cf ca)) (hx : bl.elem ("isinstance" : Str) = true := by decide +kernel) (hg : Gl X "isinstance" := by rfl) (hy : bl.elem y = true := by decide +kernel) (hgt : Gl X y := by rfl) (hvt : bootBuiltins y = some (.type (tyV t)) := by decide +kernel) (hn : y ≠ "__name__" := by decide) (hdb : (y == ("__debug__" : Str)) = false := by rfl)
    (hs : starEach [a, .Name y p2] X.env = (false, eval a X.env) :: starEach [.Name y p2] X.env := by rfl) : SE B X (.Call (.Name "isinstance" p) [a, .Name y p2] [] pos) (evE np cf (.isi t ca)) := se_isi hg (hb.at _ hx) hgt (hb.at _ hy) hvt hn hdb hs ha
theorem t_some (h : SE B X a (evE np cf ca)) (hc : ca ≠ .nil := by intro z; cases z) : SO B X (some a) ca (evE np cf ca) := so_some hc h
theorem t_join {apos : Pos} (ha : SE B X a (evE np cf ca)) (hb : SE B X b (evE np cf cb)) (hs : starEach [b] X.env = [(false, eval b X.env)] := by rfl) (hbase : attributeBase a "join" X.env (eval a X.env) = eval a X.env := by rfl) (hline : (apos.endLine == pos.line) = true := by rfl) :
    SE B X (.Call (.Attribute a "join" apos) [b] [] pos) (evE np cf (.join ca cb)) := se_join hs hbase hline ha hb
theorem ti_rng1 (hb : Blts X.mg bl) (ha : SE B X a (evE np cf ca)) (hx : bl.elem ("range" : Str) = true := by decide +kernel) (hg : Gl X "range" := by rfl) (hs : starEach [a] X.env = [(false, eval a X.env)] := by rfl) (hs' : starEach [a] X.env = (false, eval a X.env) :: starEach [] X.env := by rfl) :
    SI B X tg (.Call (.Name "range" p) [a] [] pos) (evI np cf (.iRng1 ca)) := si_rng1 hg (hb.at _ hx) hs hs' ha
theorem ti_rng2 (hbl : Blts X.mg bl) (ha : SE B X a (evE np cf ca)) (hb : SE B X b (evE np cf cb)) (hx : bl.elem ("range" : Str) = true := by decide +kernel) (hg : Gl X "range" := by rfl) (hs : starEach [a, b] X.env = [(false, eval a X.env), (false, eval b X.env)] := by rfl) (hs1 : starEach [a, b] X.env = (false, eval a X.env) :: starEach [b] X.env := by rfl)
    (hs2 : starEach [b] X.env = [(false, eval b X.env)] := by rfl) (hs3 : starEach [b] X.env = (false, eval b X.env) :: starEach [] X.env := by rfl) : SI B X tg (.Call (.Name "range" p) [a, b] [] pos) (evI np cf (.iRng2 ca cb)) := si_rng2 hg (hbl.at _ hx) hs hs1 hs2 hs3 ha hb
theorem t_lrng2 {q1 q2 : Pos} (hc : X.calm = true) (hbl : Blts X.mg bl) (ha : SE B X a (evE np cf ca)) (hb : SE B X b (evE np cf cb)) (hxl : bl.elem ("list" : Str) = true := by decide +kernel) (hx : bl.elem ("range" : Str) = true := by decide +kernel) (hgl : Gl X "list" := by rfl) (hg : Gl X "range" := by rfl)
    (hs1 : starEach [a, b] X.env = (false, eval a X.env) :: starEach [b] X.env := by rfl) (hs3 : starEach [b] X.env = (false, eval b X.env) :: starEach [] X.env := by rfl) (hpl : (backTo q2 (starEach [b] X.env)).any (·.1) = false := by rfl)
    (hs4 : starEach [Expr.Call (.Name "range" q1) [a, b] [] q2] X.env = (false, eval (.Call (.Name "range" q1) [a, b] [] q2) X.env) :: starEach [] X.env := by rfl) :
    SE B X (.Call (.Name "list" p) [.Call (.Name "range" q1) [a, b] [] q2] [] pos) (evE np cf (.lrng (.iRng2 ca cb))) := se_lrng2 hc hgl (hbl.at _ hxl) hg (hbl.at _ hx) hs1 hs3 hpl hs4 ha hb
theorem tg_name (i : Nat) (hN : X.N.Nodup) (hi : X.N[i]? = some x := by rfl) (hx : Loc X.env.scope x := by first | exact .inl rfl | exact .inr rfl) (hf : X.fn x = true ∨ X.env.scope.names.lookup x = some .local := by first | exact .inl rfl | exact .inr rfl) : SG B X (.Name x pos) (.tName i) := sg_name hN hi hx hf
theorem tgs_cons {ts : List Expr} (ht : SG B X a ca) (hts : SGs B X ts cb) (hs : (assignEach (a :: ts) X.env).map (·.2) = assign a X.env :: (assignEach ts X.env).map (·.2) := by rfl) : SGs B X (a :: ts) (.cons ca cb) := sgs_cons ht hts hs
theorem tg_tup {ts : List Expr} {k0 : Nat} (hc : X.calm = true) (h : SGs B X ts ca) (hn : (assignEach ts X.env).length = clen ca := by rfl) (hst : (assignEach ts X.env).findIdx? (·.1) = none := by rfl) : SG B X (.Tuple ts k0 pos) (.tTup ca) := sg_tup hc h hn hst fun l ρ ρ' q => bindTs_length ca l ρ ρ' q
theorem t_lc {scope : Scope} (own : List (Str × Nat)) (hc : X.calm = true) (hN : X.N.Nodup) (hi : SI B X tg iter (evI B.np cf ci)) (hg : ∀ s H C cl fp, SG B (Blk X scope s H C cl fp) tg ct) (ht : ∀ s H C cl fp, STs B (Blk X scope s H C cl fp) ifs (evT B.np cf cc))
    (he : ∀ s H C cl fp, SE B (Blk X scope s H C cl fp) elt (evE B.np cf cel)) (ok : blkC X.N X.env.scope scope own = true := by kernel_rfl) (htg : ∀ i ∈ tgS ct, i ∈ own.map (·.2) := by decide) (hs : ∀ x, foldedSetIterable iter X.env x = pure x := by intro _; rfl) :
    SE B X (.ListComp elt [⟨tg, iter, ifs, 0⟩] scope pos) (evE B.np cf (.lc cel ct ci cc (own.map (·.2)))) := se_lc hc hN rfl hi (blkOk_by ok) rfl htg hg ht he hs
theorem ts_setLc {i : Nat} {scope : Scope} (own : List (Str × Nat)) {py spos : Pos} (hc : X.calm = true) (hN : X.N.Nodup) (hi : SI B X tg iter (evI B.np cf ci)) (hg : ∀ s H C cl fp, SG B (Blk X scope s H C cl fp) tg ct) (ht : ∀ s H C cl fp, STs B (Blk X scope s H C cl fp) ifs (evT B.np cf cc))
    (he : ∀ s H C cl fp, SE B (Blk X scope s H C cl fp) elt (evE B.np cf cel)) (hk : X.env.scope.kind = .function := by rfl) (hy : X.N[i]? = some x := by rfl) (hyl : X.env.scope.names.lookup x = some .local := by rfl) (hl : (py.line == pos.line) = true := by rfl) (ha : (scope.names.any fun (n, k) => n == x && (k == .local || k == .cell)) = false := by decide +kernel)
    (ok : blkC X.N X.env.scope scope own = true := by kernel_rfl) (htg : ∀ i ∈ tgS ct, i ∈ own.map (·.2) := by decide) (hs : ∀ x, foldedSetIterable iter X.env x = pure x := by intro _; rfl) :
    SS B X (.Assign [.Name x py] (.ListComp elt [⟨tg, iter, ifs, 0⟩] scope pos) spos) (evS B.np cf (.sAsg (.tName i) (.lc cel ct ci cc (own.map (·.2))))) := ss_setLc hc hN hy hyl (sw_true hk hyl hl ha) hi (blkOk_by ok) rfl htg hg ht he hs
theorem ts_expr (he : SE B X e (evE B.np cf ca)) (hs : swapsWith e none pos.line X.env = pure false := by rfl) : SS B X (.Expr e pos) (evS B.np cf (.sExpr ca)) := ss_expr he hs
theorem ts_set {i : Nat} (hN : X.N.Nodup) (he : SE B X e (evE B.np cf ca)) (hi : X.N[i]? = some x := by rfl) (hx : Loc X.env.scope x := by first | exact .inl rfl | exact .inr rfl) (hs : swapsWith e (some (.Name x pos')) pos.line X.env = pure false := by rfl) (hf : X.fn x = true ∨ X.env.scope.names.lookup x = some .local := by first | exact .inl rfl | exact .inr rfl) :
    SS B X (.Assign [.Name x pos'] e pos) (evS B.np cf (.sAsg (.tName i) ca)) := ss_set hN hi hx hs hf he
theorem ts_asg (he : SE B X e (evE B.np cf ca)) (hg : SG B X tg (.tTup ct)) (hs : swapsWithSole [tg] e pos.line X.env = pure false := by rfl) (hw : swappedStores [tg] e X.env = pure none := by rfl) (h1 : (assignEach [tg] X.env).map (·.2) = [assign tg X.env] := by rfl) :
    SS B X (.Assign [tg] e pos) (evS B.np cf (.sAsg (.tTup ct) ca)) := ss_asg (fun i z => by cases z) hs hw h1 he hg
theorem ts_par {i j : Nat} {px py pt pt2 : Pos} {kt k2} (hc : X.calm = true) (hN : X.N.Nodup) (ha : SE B X a (evE B.np cf ca)) (hb : SE B X b (evE B.np cf cb)) (hi : X.N[i]? = some x := by rfl) (hj : X.N[j]? = some y := by rfl) (hij : i ≠ j := by decide)
    (hx : X.env.scope.names.lookup x = some .local := by rfl) (hy : X.env.scope.names.lookup y = some .local := by rfl) (hw : swappedStores [.Tuple [.Name x px, .Name y py] kt pt] (.Tuple [a, b] k2 pt2) X.env = pure (some [x, y]) := by rfl) (hs : swapsWithSole [.Tuple [.Name x px, .Name y py] kt pt] (.Tuple [a, b] k2 pt2) pos.line X.env = pure false := by rfl)
    (hs1 : starEach [a, b] X.env = (false, eval a X.env) :: starEach [b] X.env := by rfl) (hs2 : starEach [b] X.env = (false, eval b X.env) :: starEach [] X.env := by rfl) :
    SS B X (.Assign [.Tuple [.Name x px, .Name y py] kt pt] (.Tuple [a, b] k2 pt2) pos) (evS B.np cf (.sPar i j ca cb)) := ss_par hc hN hi hj hij hx hy hw hs hs1 hs2 ha hb
theorem ts_parT {i j : Nat} {px py pt pt2 : Pos} {kt k2} (hc : X.calm = true) (hN : X.N.Nodup) (ha : SE B X a (evE B.np cf ca)) (hb : SE B X b (evE B.np cf cb)) (hi : X.N[i]? = some x := by rfl) (hj : X.N[j]? = some y := by rfl)
    (hx : Loc X.env.scope x := by first | exact .inl rfl | exact .inr rfl) (hy : Loc X.env.scope y := by first | exact .inl rfl | exact .inr rfl) (hfx : X.fn x = true ∨ X.env.scope.names.lookup x = some .local := by first | exact .inl rfl | exact .inr rfl) (hfy : X.fn y = true ∨ X.env.scope.names.lookup y = some .local := by first | exact .inl rfl | exact .inr rfl)
    (hw : swappedStores [.Tuple [.Name x px, .Name y py] kt pt] (.Tuple [a, b] k2 pt2) X.env = pure none := by rfl) (hs : swapsWithSole [.Tuple [.Name x px, .Name y py] kt pt] (.Tuple [a, b] k2 pt2) pos.line X.env = pure false := by rfl)
    (hs1 : starEach [a, b] X.env = (false, eval a X.env) :: starEach [b] X.env := by rfl) (hs2 : starEach [b] X.env = (false, eval b X.env) :: starEach [] X.env := by rfl) :
    SS B X (.Assign [.Tuple [.Name x px, .Name y py] kt pt] (.Tuple [a, b] k2 pt2) pos) (evS B.np cf (.sPar i j ca cb)) := ss_parT hc hN hi hj hx hy hfx hfy hw hs hs1 hs2 ha hb
theorem ts_sub {o : Nat} {p2 p3 : Pos} (hu : X.A.units + 65 < cLine) (he : SE B X e (evE B.np cf ca)) (hi : SE B X a (evE B.np cf cb)) (ho : X.N[o]? = some x := by rfl) (hv : Vis X.env.scope x := by first | exact .inl rfl | exact .inr (.inl rfl) | exact .inr (.inr rfl)) (hd : (x == ("__debug__" : Str)) = false := by rfl) (hcd : (x == ("__classdict__" : Str)) = false := by rfl)
    (hsd : swapsWith e (some (.Subscript (.Name x p2) a p3)) pos.line X.env = pure false := by rfl) (hs : swapsWithSole [.Subscript (.Name x p2) a p3] e pos.line X.env = pure false := by rfl) (hw : swappedStores [.Subscript (.Name x p2) a p3] e X.env = pure none := by rfl) (h1 : (assignEach [.Subscript (.Name x p2) a p3] X.env).map (·.2) = [assign (.Subscript (.Name x p2) a p3) X.env] := by rfl)
    (ha : ∀ v, assign (.Subscript (.Name x p2) a p3) X.env v = (do
      let ov ← holding [v] (eval (.Name x p2) X.env)
      let iv ← holding [v, ov] (eval a X.env)
      standAt p3
      holding [v, ov, iv] (setItem ov iv v)
      release [v, ov, iv] []) := by intro _; rfl) : SS B X (.Assign [.Subscript (.Name x p2) a p3] e pos) (evS B.np cf (.sSub o cb ca)) := ss_sub hu hsd ho hv hd hcd hs hw h1 ha he hi
theorem ts_for (hp : PassesOwn (model X.prog X.w) X.A X.env X.xe) (hc : X.calm = true) (hi : SI B X tg iter (evI B.np cf ci)) (hg : SG B X tg ct) (hb : SSs B X body (evSs B.np cf cb)) (hs : ∀ x, foldedSetIterable iter X.env x = pure x := by intro _; rfl) :
    SS B X (.For tg iter body [] pos) (evS B.np cf (.sFor ct ci cb)) := ss_for hp hc hs hi hg hb
theorem tr_slot (i : Nat) (hb : SAr B X es (evAs np cf cb)) (hN : X.N[i]? = some x := by rfl) (hv : Vis X.env.scope x := by first | exact .inl rfl | exact .inr (.inl rfl) | exact .inr (.inr rfl)) (hd : (x == ("__debug__" : Str)) = false := by rfl) (hcd : (x == ("__classdict__" : Str)) = false := by rfl) (hs : starEach (.Name x p :: es) X.env = (false, eval (.Name x p) X.env) :: starEach es X.env := by rfl) :
    SAr B X (.Name x p :: es) (evAs np cf (.cons (.slot i) cb)) := sar_slot hN hv hd hcd hs hb
theorem tr_val (ha : SE B X a (evE np cf ca)) (hb : SAr B X es (evAs np cf cb)) (hc : ∀ i, ca ≠ .slot i := by intro i z; cases z) (hs : starEach (a :: es) X.env = (false, eval a X.env) :: starEach es X.env := by rfl) : SAr B X (a :: es) (evAs np cf (.cons ca cb)) := sar_val hc hs ha hb
theorem evAs_length : ∀ (ca : C) (ρ : Rho) (l : List Ar) (ρ' : Rho), evAs np cf ca ρ = .ok l ρ' → l.length = clen ca := by
  intro ca
  induction ca with
  | nil => intro ρ l ρ' h; cases h; rfl
  | cons e es _ ih =>
    intro ρ l ρ' h
    by_cases hs : ∃ i, e = .slot i
    · obtain ⟨i, rfl⟩ := hs
      have h : (match ρ[i]? with | some (.fz _) | some (.ow _) => (evAs np cf es ρ).bind fun l ρ => R.ok (Ar.slot i :: l) ρ | _ => .fail) = .ok l ρ' := h
      split at h
      · obtain ⟨l', ρ1, h1, m1⟩ := bind_ok h
        cases m1
        rw [List.length_cons, ih _ _ _ h1]
        rfl
      · obtain ⟨l', ρ1, h1, m1⟩ := bind_ok h
        cases m1
        rw [List.length_cons, ih _ _ _ h1]
        rfl
      · cases h
    · have h : (evE np cf e ρ).bind (fun r ρ => (toFz ρ r).bind fun d ρ => (evAs np cf es ρ).bind fun l ρ => R.ok (Ar.val d :: l) ρ) = .ok l ρ' := by
        cases e <;> first | exact absurd ⟨_, rfl⟩ hs | exact h
      obtain ⟨r, ρ1, h1, m1⟩ := bind_ok h
      obtain ⟨d, ρ2, h2, m2⟩ := bind_ok m1
      obtain ⟨l', ρ3, h3, m3⟩ := bind_ok m2
      cases m3
      rw [List.length_cons, ih _ _ _ h3]
      rfl
  | _ => intro ρ l ρ' h; cases h
theorem t_call {k n f : Nat} (C : Callee X.prog X.w X.K X.mg X.base k x n (cf f)) (hrm : Room k X.A) (ha : SAr B X (e :: es) (evAs np cf ca)) (hg : Gl X x := by rfl) (hdb : (x == ("__debug__" : Str)) = false := by rfl) (he : starEach (e :: es) X.env = (false, eval e X.env) :: starEach es X.env := by rfl)
    (hpl : (backTo pos (starEach es X.env)).any (·.1) = false := by rfl) (hlen : (e :: es).length = n := by rfl) (hal : clen ca = n := by rfl) : SE B X (.Call (.Name x p) (e :: es) [] pos) (evE np cf (.call f ca)) := se_call C hrm hg hdb he hpl hlen ha fun ρ l ρ' h => (evAs_length ca ρ l ρ' h).trans hal
theorem t_call1 {k fi : Nat} (C : Callee X.prog X.w X.K X.mg X.base k x 1 (cf fi)) (hrm : Room k X.A) (ha : SE B X e (evE np cf ca)) (hg : Gl X x := by rfl) (hdb : (x == ("__debug__" : Str)) = false := by rfl) (hs : starEach [e] X.env = (false, eval e X.env) :: starEach [] X.env := by rfl) :
    SE B X (.Call (.Name x p) [e] [] pos) (evE np cf (.call1 fi ca)) := se_call1 C hrm hg hdb hs ha
theorem t_callS {k f : Nat} (C : CalleeS X.prog X.w X.K X.mg X.base k x (cf f)) (hrm : Room k X.A) (ha : SL B X (e :: es) (evEs np cf ca)) (hg : Gl X x := by rfl) (hdb : (x == ("__debug__" : Str)) = false := by rfl) (he : starEach (e :: es) X.env = (false, eval e X.env) :: starEach es X.env := by rfl) (hpl : (backTo pos (starEach es X.env)).any (·.1) = false := by rfl) :
    SE B X (.Call (.Name x p) (e :: es) [] pos) (evE np cf (.callS f ca)) := se_callS C hrm hg hdb he hpl ha
theorem t_callS0 {k f : Nat} (C : CalleeS X.prog X.w X.K X.mg X.base k x (cf f)) (hrm : Room k X.A) (hg : Gl X x := by rfl) (hdb : (x == ("__debug__" : Str)) = false := by rfl) : SE B X (.Call (.Name x p) [] [] pos) (evE np cf (.callS f .nil)) := se_callS0 C hrm hg hdb
end
/-- room enough to compare -/
theorem room_cmp {k : Nat} {A : Around} (r : Room k A) : A.units + 65 < cLine := by have := r.un; omega
end PV
namespace PV
open PySem L2
section
variable {P : Program} {w : World} {K : PySem.W.Frag} {mg : Str → Option Value} {base : Heap} {f : Addr} {fd : FuncData} {ps : List Str}
theorem zeroF {fs : List Fn} {j np : Nat} (h : ps.length = np) : FnOk P w K mg base CX0 0 f fd ps (spF ⟨K, mg⟩ np (run fs 0 j)) :=
  ⟨fun vs H Q E q => by rw [q.1, h], fun A outer s H args us vs Q E hr e0 hb hv q => by obtain ⟨_, _, _, _, _, _, z, _⟩ := q; cases z⟩
theorem zeroS {fs : List Fn} {j : Nat} : FnR P w K mg base CX0 0 f (spS ⟨K, mg⟩ (run fs 0 j)) := by
  intro A outer s H us vs Q E hr e0 r q
  obtain ⟨ws, rest, _, _, _, q⟩ := q
  obtain ⟨_, _, _, _, _, _, z, _⟩ := q s.heap.objs.size (e0.hok.fresh (Nat.le_refl _))
  cases z
end
end PV

/-! PvX1: an own exception whose __init__ says super().__init__(x), then self.f = x: the heap behind its making. -/
namespace PV
open PySem PySem.W PySem.Calls PyProof.Rows Builtin.ObjectAttr
/-- such a body -/
abbrev xiBody (sf x f : Str) (p0 p1 p2 p3 p4 p5 p6 p7 p8 p9 : Pos) : List Stmt :=
  [.Expr (.Call (.Attribute (.Call (.Name "super" p0) [] [] p1) "__init__" p2) [.Name x p3] [] p4) p5, .Assign [.Attribute (.Name sf p6) f p7] (.Name x p8) p9]
/-- the object of such a class, its dict -/
abbrev xiObj (C t : Addr) (dd : Option Addr) : Obj := { cls := .ref C, dict := dd, data := .fields #[.ref t, .none, .none, .none, .bool false, .none] }
/-- a built-in's __init__ -/
structure InitF (B initId : String) : Prop where
  init : Slot B "__init__" initId
  entry : entryFor table initId = some Builtin.«BaseException.__init__»
  kind : builtinKind initId = some .slot
  row : Manifest.signature? initId = some ⟨.positional, "*", B, .self, [⟨"args", .varPos, false⟩]⟩
  star : (B != "*") = true
theorem InitF.of {B newId initId : String} (F : ExcCallFacts B newId initId) : InitF B initId := ⟨F.init, F.initEntry, F.initKind, F.initRow, F.noStar⟩
/-! ### the call of an own exception class, its __new__ a base's -/
section
variable {prog : Program} {w : World} {A : Around} {E : Value → Shared → Prop} {R : Result → Shared → Prop} {h : Heap} {g : Array GenState} {d : Drawn} {t : Nat} {os : OsState}
variable {nm q : Str} {C N : Addr} {bs bm bmB : List Value} {hdct : Bool} {sn : List Str} {sub : List Value} {ab : Bool} {col : Option Bool} {dd : Option Addr} {k0 k1 k2 k3 k5 : Option Value} {B newId initId : String}
theorem newK_check {M : Model} (F : ExcBaseFacts B newId initId bmB) (hB : bm.contains (.type B) = true) {rest : List Value} {Q : Unit → Shared → Prop} (hC : h.get? C = some (excClassObj nm q C N bs bm hdct sn sub ab col dd k0 k1 k2 k3 k5 newId)) (hq : Q () ⟨h, g, d, t, os⟩) :
    wpAny M A (checkBuiltinCall newId ⟨.ref C :: rest, []⟩) Q E ⟨h, g, d, t, os⟩ := by
  have c1 : (Value.ref C :: bm).contains (.type B) = true := by rw [List.contains_cons, hB, Bool.or_true]
  have c2 := F.noStar
  simp only [checkBuiltinCall, F.newKind, F.newSplit, F.newRow]
  repeat (first | refine wpAny_loadPart_at hC ?_ | (refine wpAny_isSubtype_exc hC ?_; rw [c1]) | refine wpAny_staticBase_exc hC ?_ | refine wpAny_madeBy_exc hC ?_ | simp only [bne_self_eq_false, Bool.false_eq_true, if_false] | wp_step)
  exact hq
theorem newK (F : ExcBaseFacts B newId initId bmB) (hB : bm.contains (.type B) = true) (hA : bm.contains (.type "AttributeError") = false) (hN : bm.contains (.type "NameError") = false) {rest : List Value} (hC : h.get? C = some (excClassObj nm q C N bs bm hdct sn sub ab col dd k0 k1 k2 k3 k5 newId))
    (hq : R (.ok (.ret (.ref (h.objs.size + 1)))) ⟨(h.push (kdv_tup rest)).push (PySem.HandSPX.excO C h.objs.size), g, d, t, os⟩) (hrest : rest.length ≤ sizeLine) : codeAny (model prog w) A (.builtin newId ⟨.ref C :: rest, []⟩) R ⟨h, g, d, t, os⟩ := by
  have c0 := F.ends
  have c1 : (Value.ref C :: bm).contains (.type B) = true := by rw [List.contains_cons, hB, Bool.or_true]
  have c2 : (Value.ref C :: bm).contains (.type "AttributeError") = false := by rw [List.contains_cons, hA]; rfl
  have c3 : (Value.ref C :: bm).contains (.type "NameError") = false := by rw [List.contains_cons, hN]; rfl
  refine codeAny_builtinAt F.entry ?_
  unfold Builtin.«BaseException.__new__»
  refine PySem.wpAt_bind ?_
  show PySem.wpAt _ _ _ (stack >>= _) _ _ _
  refine PySem.wpAt_bind (PySem.wpAt_stack fun p below => PySem.wpAt_of_wpAny ?_)
  wp_walk
  refine PySem.wpAt_of_wpAny ?_
  rw [F.owner]
  repeat (first | with_reducible refine wpAny_madeHere_exc F.canon hC ?_ | with_reducible refine wpAny_loadPart_at hC ?_ | (with_reducible refine wpAny_isSubtype_exc hC ?_; first | rw [c1] | rw [c2] | rw [c3]) | wp_step)
  show R _ _
  rw [Heap.size_push]
  exact hq
theorem typeK (F : ExcBaseFacts B newId initId bmB) (hB : bm.contains (.type B) = true) (hA : bm.contains (.type "AttributeError") = false) (hN : bm.contains (.type "NameError") = false) {rest : List Value} {fI : Addr} {Q : PySem.Fin → Shared → Prop} (hC : h.get? C = some (excClassObj nm q C N bs bm hdct sn sub ab col dd k0 k1 k2 k3 k5 newId))
    (hi : Looks (model prog w) h (typeLookup (.ref C) "__init__") (some (.ref fI))) (hb : ∀ self, Looks (model prog w) h (bindSpecial (.ref fI) self) (.ref fI, [self])) (hrest : rest.length ≤ sizeLine)
    (hq : codeAny (model prog w) A (.call (.ref fI) ⟨.ref (h.objs.size + 1) :: rest, []⟩) (fun r s' => match r with | .ok (.ret v) => v = .none ∧ Q (.done (.ret (.ref (h.objs.size + 1)))) s' | .ok _ => False | .error e => E e s') ⟨(h.push (kdv_tup rest)).push (PySem.HandSPX.excO C h.objs.size), g, d, t, os⟩) :
    wpAny (model prog w) A (Builtin.«type.__call__» ⟨.ref C :: rest, []⟩) Q E ⟨h, g, d, t, os⟩ := by
  repeat (first | with_reducible refine wpAny_loadPart_at hC ?_ | with_reducible refine wpAny_madeBy_exc hC ?_ | wp_step)
  refine codeAny_call_builtin_code (Code.quiet_builtin _ F.quiet) (newK_check F hB hC (newK F hB hA hN hC ?_ hrest))
  show wpAny _ _ _ _ _ _
  have kp : ∀ b o, h.get? b = some o → ((h.push (kdv_tup rest)).push (PySem.HandSPX.excO C h.objs.size)).get? b = some o := fun b o e => Heap.get?_push_of_some _ (Heap.get?_push_of_some _ e)
  have hC1 := kp _ _ hC
  have hg1 : ((h.push (kdv_tup rest)).push (PySem.HandSPX.excO C h.objs.size)).get? (h.objs.size + 1) = some (PySem.HandSPX.excO C h.objs.size) := by heap_get
  have cC : (Value.ref C :: bm).contains (.ref C) = true := by simp
  have i1 := hi.keeps kp
  have b1 := (hb (.ref (h.objs.size + 1))).keeps kp
  unfold isInstance
  repeat (first | with_reducible refine wpAny_loadPart_at hg1 ?_ | (with_reducible refine wpAny_isSubtype_exc hC1 ?_; rw [cC]) | wp_step)
  show wpAny _ _ (typeLookup (.ref C) _) _ _ _
  refine i1.at (wpAny_holding (wpAny_bind (b1.at (wpAny_bind (wpAny_call (codeAny_mono hq fun r s' z => ?_))))))
  rcases r with e | (v | _ | _ | _) <;> first | exact z | exact z.elim | skip
  obtain ⟨rfl, z⟩ := z
  first
    | exact wpAny_pure (wpAny_pure z)
    | (wp_walk; exact z)
theorem callK (F : ExcBaseFacts B newId initId bmB) (hB : bm.contains (.type B) = true) (hA : bm.contains (.type "AttributeError") = false) (hN : bm.contains (.type "NameError") = false) {rest : List Value} {fI : Addr} (hC : h.get? C = some (excClassObj nm q C N bs bm hdct sn sub ab col dd k0 k1 k2 k3 k5 newId))
    (hi : Looks (model prog w) h (typeLookup (.ref C) "__init__") (some (.ref fI))) (hb : ∀ self, Looks (model prog w) h (bindSpecial (.ref fI) self) (.ref fI, [self])) (hrest : rest.length ≤ sizeLine)
    (hq : codeAny (model prog w) (A.under (.builtin "type.__call__" ⟨.ref C :: rest, []⟩)) (.call (.ref fI) ⟨.ref (h.objs.size + 1) :: rest, []⟩) (InitBack (h.objs.size + 1) R) ⟨(h.push (kdv_tup rest)).push (PySem.HandSPX.excO C h.objs.size), g, d, t, os⟩) :
    codeAny (model prog w) A (.call (.ref C) ⟨rest, []⟩) R ⟨h, g, d, t, os⟩ := by
  have f1 := tc_lookup
  have f2 := tc_bind (.ref C)
  have ty : (⟨h, g, d, t, os⟩ : Shared).TypeIs (.ref C) "type" := ⟨_, hC, rfl⟩
  refine codeAny_of_tree ?_
  show wpAny _ _ (callAny (.ref C) _) _ _ _
  repeat (any_goals (first | assumption | with_reducible refine wpAny_loadPart_at hC ?_ | wp_step))
  refine ⟨rfl, codeAny_call_builtin_at (Code.quiet_builtin _ (by decide +kernel)) entry_typeCall (wpAny_check_type_call_sub hC (typeK F hB hA hN hC hi hb hrest (codeAny_mono hq fun r s' z => ?_)))⟩
  exact z
theorem boundK {M : Model} (F : InitF B initId) {e : Addr} {oe : Obj} {rest : List Value} {Q : Unit → Shared → Prop} (hC : h.get? C = some (excClassObj nm q C N bs bm hdct sn sub ab col dd k0 k1 k2 k3 k5 newId)) (he : h.get? e = some oe) (hcls : oe.cls = .ref C) (hq : Q () ⟨h, g, d, t, os⟩) :
    wpAny M A (checkBoundCall initId ⟨.ref e :: rest, []⟩) Q E ⟨h, g, d, t, os⟩ := by
  have c0 := F.star
  simp only [checkBoundCall, F.kind, F.row]
  repeat (first | (with_reducible refine wpAny_loadPart_at he ?_; rw [hcls]) | with_reducible refine wpAny_loadPart_at hC ?_ | wp_step)
  refine wpAny_onRaise ?_
  rw [show ∀ (a b : String) (n : Nat), Bind.check ⟨.positional, "*", B, .self, [⟨"args", .varPos, false⟩]⟩ a b n (List.map (fun x => x.fst) ({ pos := Value.ref e :: rest } : Args).kw) = pure () from fun a b n => check_star_args _ _ _ _ _ _]
  exact wpAny_pure hq
end
section
variable {prog : Program} {w : World} {A : Around} {K : Frag} {mg : Str → Option Value} {base : Heap} {R : Result → Shared → Prop} {E : Value → Shared → Prop} {h : Heap} {g : Array GenState} {d : Drawn} {t : Nat} {os : OsState}
variable {B newId initId : String} {bmB : List Value} {C fI cda cc e t0 : Addr} {nm qual sf x f : Str} {params : Arguments} {scope : Scope} {dV kV doc pm ct u : Value} {an od : Option Addr} {osl : Array (Option Value)} {p0 p1 p2 p3 p4 p5 p6 p7 p8 p9 : Pos}
/-- self.f = u, the first field -/
theorem xi_set (SF : StoreFacts B bmB "object.__setattr__" "object") (X : K.In h) (qo : excOver K C bmB = true) (sa : findIn K (.ref C) "__setattr__" = some (some (.builtin "object.__setattr__"))) (hd : hasDictIn K C = true) (hno : findIn K (.ref C) f = some none)
    (hx : h.get? e = some (xiObj C t0 none)) {Q : Unit → Shared → Prop}
    (hq : ∀ h' tk' dx, (∀ b o, b ≠ e → h.get? b = some o → h'.get? b = some o) → h.objs.size ≤ dx → dx ≠ e → h'.get? e = some (xiObj C t0 (some dx)) → h'.Ns1 dx (fun y => if y = f then some u else none) → Q () ⟨h', g, d, tk', os⟩) :
    wpAny (model prog w) A (setAttr (.ref e) f u) Q E ⟨h, g, d, t, os⟩ := by
  have I : InstAt h e (xiObj C t0 none) C none := ⟨hx, rfl, rfl, trivial⟩
  have hxs : e ≠ h.objs.size := Nat.ne_of_lt (Heap.lt_size hx)
  obtain ⟨cd, hcd, hh⟩ := any_some hd
  refine set_plain (s := ⟨h, g, d, t, os⟩) X I sa ?_
  refine osa_openX (s := ⟨h, g, d, t + 1, os⟩) (r := none) SF X I qo (by unfold takerIn; rw [hno]; rfl) fun b => ?_
  have hcls : Looks (model prog w) h (classData C) cd := looks_clsIn X hcd
  obtain ⟨nm', bs', mro', ns', qn', hd', sn', sb', ab', col', del'⟩ := cd
  dsimp only at hh
  subst hh
  show wpAny _ _ (storeInOwnDict (.ref e) (.ref C) (.str f t) f u b) _ _ _
  unfold storeInOwnDict ownDictForStores
  repeat (first | with_reducible refine PySem.HandSPX.store_in_new ?_ ?_ | with_reducible refine wpAny_loadPart_at hx ?_ | with_reducible refine hcls.at ?_ | wp_step)
  · exact ⟨_, #[], _, (Heap.get?_update_ne _ _ _ _ hxs.symm).trans (Heap.get?_push_at rfl rfl), rfl, fun e he => absurd he (by simp), fun _ => rfl⟩
  · intro h' tk' hn' hs
    have hx₁ : (h.push { cls := .type "dict", data := .dict #[] }).get? e = some (xiObj C t0 none) := Heap.get?_push_of_some _ hx
    refine hq h' tk' h.objs.size (fun b o hb ho => ?_) (Nat.le_refl _) hxs.symm ?_ hn'
    · exact (hs.2 b (Nat.ne_of_lt (Heap.lt_size ho))).trans ((Heap.get?_update_ne _ _ _ _ hb).trans (Heap.get?_push_of_some _ ho))
    · exact (hs.2 e hxs).trans (Heap.get?_update_self _ hx₁ rfl)
/-- the bound __init__ of a built-in, called -/
theorem xi_bound (FB : InitF B initId) (X : K.In h) (q : excInitIn K C bmB newId = true) {m : Addr} (hx : h.get? e = some (xiObj C t0 none)) (hm : h.get? m = some (kxs_mw initId e)) {Q : Value → Shared → Prop}
    (hq : ∀ h' t1, (∀ b o, b ≠ e → h.get? b = some o → h'.get? b = some o) → h'.get? e = some (xiObj C t1 none) → Q .none ⟨h', g, d, t, os⟩) :
    wpAny (model prog w) A (call (.ref m) [u]) Q E ⟨h, g, d, t, os⟩ := by
  obtain ⟨nm, N', qn, bs, bm, hdct, sn, sub, ab, col, dd, k0, k1, k2, k3, k5, hC, hT⟩ := excInit_of X q
  refine wpAny_call (codeAny_of_tree ?_)
  show wpAny _ A.in1 (callAny (.ref m) ⟨[u], []⟩) _ _ _
  simp only [callAny]
  refine wpAny_bind (wpAny_load hm ?_)
  simp only [kxs_mw, show (Value.type "method-wrapper" == Value.type "method" || Value.type "method-wrapper" == Value.type "builtin_function_or_method" || Value.type "method-wrapper" == Value.type "method-wrapper") = true by decide, if_true]
  refine KFB.if_so (by decide) (wpAny_bind (boundK FB hC hx rfl (wpAny_bind (wpAny_pure (wpAny_pure ⟨plainId_quiet FB.init.plain _, codeAny_builtin FB.entry ?_⟩)))))
  exact exc_init_tree (cls := .ref C) (t0 := t0) (dv := none) (c2 := .none) (c3 := .none) (b4 := .bool false) hx (by show 1 ≤ sizeLine; rw [sizeLine_eq]; omega) fun h' k e' _ => hq h' _ k e'
/-- how the first row is read -/
def XiEq (sf x f : Str) (p0 p1 p2 p3 p4 p5 p6 p7 p8 p9 : Pos) (env : Env) : Prop := interactive env = false ∧ swapsWith (.Call (.Attribute (.Call (.Name "super" p0) [] [] p1) "__init__" p2) [.Name x p3] [] p4) none p5.line env = pure false ∧ swapsWith (.Name x p8) (some (.Attribute (.Name sf p6) f p7)) p9.line env = pure false ∧
  starEach [.Name x p3] env = (false, eval (.Name x p3) env) :: starEach [] env ∧ ∃ pl : Sem Bool, eval (.Call (.Attribute (.Call (.Name "super" p0) [] [] p1) "__init__" p2) [.Name x p3] [] p4) env = (do
      let ov ← attributeBase (.Call (.Name "super" p0) [] [] p1) "__init__" env (eval (.Call (.Name "super" p0) [] [] p1) env)
      standAt p2.atName
      let (f, first) ← holding [ov] (getMethod ov "__init__" pl)
      callWith p4 f first (backTo p4 (starEach [.Name x p3] env)) [])
/-- the def's run -/
theorem xi_run (FB : InitF B initId) (KF : KxsFacts B initId) (SF : StoreFacts B bmB "object.__setattr__" "object") (hmod : L2.Mod K mg base) (hkb : ∀ b o, base.get? b = some o → h.get? b = some o) (hbe : base.get? e = none)
    (q : excInitIn K C bmB newId = true) (qo : excOver K C bmB = true) (sa : findIn K (.ref C) "__setattr__" = some (some (.builtin "object.__setattr__"))) (hd : hasDictIn K C = true) (hno : findIn K (.ref C) f = some none)
    (hB : subIn K (.ref C) (.type B) = some true) (hCC : mroIn K C (.ref C) = some true) (ho : nsIn K cStatics "thirdparty.any" = some none) (hsu : ks_superIn K C C "__init__" = some (some (.builtin initId)))
    {oc : Value} (lk : K.lookup fI = some ⟨oc, od, .func (ksFn nm qual params (xiBody sf x f p0 p1 p2 p3 p4 p5 p6 p7 p8 p9) scope dV kV doc pm an (.ref cda) ct cc), osl⟩) (hcd : codeIn K (.ref cda) qual = true)
    {ccl cl : Value} {cdd cld : Option Addr} {vs : Array Value} {ccs csl : Array (Option Value)} {file : Str} {tf : Tok} {ar : Arg} (hpar : (params.posonlyargs ++ params.args).head? = some ar) (har : ar.arg = sf)
    (hcode : K.lookup cda = some ⟨ccl, cdd, .fields vs, ccs⟩) (hvs : vs[2]? = some (.str file tf)) (hfile : ((prog.main.file : Str) == file) = true) (hcell : K.lookup cc = some ⟨cl, cld, .cell (some (.ref C)), csl⟩)
    (hks : scope.names.lookup ("super" : Str) = some .globalImplicit) (hkc : scope.names.lookup ("__class__" : Str) = some .free) (hka : scope.names.lookup sf = some .local) (hkx : scope.names.lookup x = some .local) (hk : scope.kind = .function)
    (hnc : ∀ y ∈ scope.names, y.2 ≠ .cell) (hco : scope.isCoroutine = false) (hgen : scope.isGenerator = false) (hmg : mg "super" = none) (htop : (prog.main.scope.names.lookup ("super" : Str)).isSome = false)
    (hev : ∀ L, XiEq sf x f p0 p1 p2 p3 p4 p5 p6 p7 p8 p9 (ksEnv qual scope L fI (.ref cda) cc)) (hsx : sf ≠ x) (hdx : (x == ("__debug__" : Str)) = false) (hds : (sf == ("__debug__" : Str)) = false)
    (hbind : ∀ s, BindsTo s (ksFn nm qual params (xiBody sf x f p0 p1 p2 p3 p4 p5 p6 p7 p8 p9) scope dV kV doc pm an (.ref cda) ct cc) ⟨[.ref e, u], []⟩ [(sf, .ref e), (x, u)])
    (hroom : A.depth < recursionLimit) (hx : h.get? e = some (xiObj C t0 none))
    (hq : ∀ h' tk' dx t1, (∀ b o, b ≠ e → h.get? b = some o → h'.get? b = some o) → h.get? dx = none → dx ≠ e → h'.get? e = some (xiObj C t1 (some dx)) → h'.Ns1 dx (fun y => if y = f then some u else none) → R (.ok (.ret .none)) ⟨h', g, d, tk', os⟩) :
    codeAny (model prog w) A (.call (.ref fI) ⟨[.ref e, u], []⟩) R ⟨h, g, d, t, os⟩ := by
  have X : K.In h := hmod.kin.keeps hkb
  refine ks_codeAny_call_defAt (fd := ksFn nm qual params (xiBody sf x f p0 p1 p2 p3 p4 p5 p6 p7 p8 p9) scope dV kV doc pm an (.ref cda) ct cc) (body := xiBody sf x f p0 p1 p2 p3 p4 p5 p6 p7 p8 p9) (binds := [(sf, .ref e), (x, u)])
    hroom (X _ _ lk) rfl (hmod.nolimit.keeps hkb) (codeRec_of X hcd) rfl (hbind _) hnc ?_ (fun h₀ hns hk₀ => ?_) hco hgen hk
  · intro y hy
    rcases List.mem_cons.mp hy with rfl | hy
    · exact hka
    · rcases List.mem_cons.mp hy with rfl | hy
      · exact hkx
      · cases hy
  · have X0 : K.In h₀ := X.keeps hk₀
    have hx0 := hk₀ _ _ hx
    obtain ⟨hint, hsw, hsw2, hst, pl, hev⟩ := hev h.objs.size
    obtain ⟨mb, hb1, hb2⟩ := hmod.blt
    have kb0 : ∀ b o, base.get? b = some o → h₀.get? b = some o := fun b o z => hk₀ b o (hkb b o z)
    refine ks_wpAt_execs_cons (ks_wpAt_Expr_any (ks_wpAt_MethodCall (pl := pl) ?_ hev) hint hsw)
    refine ks_wpAt_super_base hks hkc (by decide) rfl (X0 _ _ lk) rfl hpar rfl (X0 _ _ hcode) rfl hvs hfile htop ?_
    refine ks_loadName_global hk hks (loadGlobal_builtin (hmod.glob.keeps kb0) hmg (hb1.keeps kb0) ((hb2 "super" (by decide)).trans (by first | boot_by_name | rfl | kernel_rfl)) ⟨rfl, ?_⟩)
    refine wpAny_loadName_free hk hkc rfl ⟨_, X0 _ _ hcell, rfl⟩ ?_
    rw [har]
    refine wpAny_loadName_local hk hka hns (v := .ref e) (by simp [List.lookup, show (sf == x) = false by simpa using hsx]) ?_
    obtain ⟨cdC, hcC, _⟩ := any_some hd
    obtain ⟨oC, hC1, hC2⟩ : ∃ oC, h₀.get? C = some oC ∧ oC.data = .cls cdC := by
      unfold clsIn at hcC
      split at hcC
      · rename_i c d cd' sl ho
        cases hcC
        exact ⟨_, X0 _ _ ho, rfl⟩
      · cases hcC
    have I0 : InstAt h₀ e (xiObj C t0 none) C none := ⟨hx0, rfl, rfl, trivial⟩
    refine ks_wpAny_isType_cls hC1 hC2 ⟨rfl, ?_⟩
    refine ks_wpAny_call_super hC1 hC2 hx0 rfl (fun c z => by cases z) (looks_mroIn X0 hCC) fun h1 e1 k1 => ?_
    have X1 : K.In h1 := X0.keeps k1
    have hx1 := k1 _ _ hx0
    have I1 : InstAt h1 e (xiObj C t0 none) C none := ⟨hx1, rfl, rfl, trivial⟩
    have hsu1 := hsu
    unfold ks_superIn at hsu1
    rw [hcC] at hsu1
    refine kxs_getMethod KF e1 (looks_opaque X1 ho) (l₀ := cdC.mro) (fun A Q E s k q => wpAny_bind ((looks_clsIn X1 hcC) A _ E s k (wpAny_pure q))) rfl X1 hsu1 (I1.type.andThen (looks_subIn X1 hB)) (ks_ne X1 I1 hcC) (by decide) ?_
    have k2 : ∀ b o, h1.get? b = some o → (h1.push (kxs_mw initId e)).get? b = some o := fun b o z => Heap.get?_push_of_some _ z
    have hm2 : (h1.push (kxs_mw initId e)).get? h1.objs.size = some (kxs_mw initId e) := Heap.get?_push_at rfl rfl
    have hx2 := k2 _ _ hx1
    have X2 : K.In (h1.push (kxs_mw initId e)) := X1.keeps k2
    have heL : h.objs.size ≠ e := Nat.ne_of_gt (Heap.lt_size hx)
    obtain ⟨oL, eL, pL, hL, rL⟩ := id hns
    have ns2 : (h1.push (kxs_mw initId e)).Ns h.objs.size (fun y => [(sf, Value.ref e), (x, u)].reverse.lookup y) := ⟨oL, eL, pL, k2 _ _ (k1 _ _ hL), rL⟩
    have vx : (fun y => [(sf, Value.ref e), (x, u)].reverse.lookup y) x = some u := by simp [List.lookup]
    have vs' : (fun y => [(sf, Value.ref e), (x, u)].reverse.lookup y) sf = some (.ref e) := by simp [List.lookup, show (sf == x) = false by simpa using hsx]
    show wpAny _ _ (callWith p4 (.ref h1.objs.size) [] (backTo p4 (starEach [.Name x p3] (ksEnv qual scope h.objs.size fI (.ref cda) cc))) []) _ _ _
    rw [hst]
    refine kxs_callWith (i := initId) (x := e) rfl (evalArgs_plain ?_)
    refine spliced_cons (wpAny_Name (wpAny_loadName_local hk hkx ns2 vx ?_) hdx)
    refine spliced_nil ⟨hm2, ?_⟩
    show wpAny _ _ (call (.ref h1.objs.size) [u]) _ _ _
    refine xi_bound FB X2 q hx2 hm2 fun h3 t1 k3 hx3 => ?_
    have X3 : K.In h3 := hmod.kin.keeps fun b o z => k3 b o (fun y => by rw [y, hbe] at z; cases z) (k2 b o (k1 b o (kb0 b o z)))
    have ns3 : h3.Ns h.objs.size (fun y => [(sf, Value.ref e), (x, u)].reverse.lookup y) := ⟨oL, eL, pL, k3 _ _ heL (k2 _ _ (k1 _ _ hL)), rL⟩
    show PySem.wpAt _ _ _ (execs _ _) _ _ _
    refine wpAt_of_wpAny (wpAny_execs_cons ?_)
    refine plainObj_wpAny_Assign_Attribute (wpAny_Name (wpAny_loadName_local hk hkx ns3 vx ?_) hdx) hsw2
    refine wpAny_Name (wpAny_loadName_local hk hka ns3 vs' ?_) hds
    refine xi_set SF X3 qo sa hd hno hx3 fun h4 tk4 dx k4 ge ne hx4 n4 => ?_
    refine wpAny_execs_nil (hq h4 tk4 dx t1 (fun b o nb z => k4 b o nb (k3 b o nb (k2 b o (k1 b o (hk₀ b o z))))) ?_ ne hx4 n4)
    cases z : h.get? dx with
    | none => rfl
    | some o =>
      have y := Heap.lt_size (k3 dx o ne (k2 dx o (k1 dx o (hk₀ dx o z))))
      exact absurd y (Nat.not_lt.mpr ge)
end
end PV

/-! PvX2: own exceptions as values: made, asked for their class, their field read. -/
namespace PV
open PySem L2
/-- what is known of an own exception class with such an __init__ -/
structure XIf (prog : Program) (K : PySem.W.Frag) (mg : Str → Option Value) (C : Addr) (f : Str) (B Bn newId initn initId : String) (bmB bmn : List Value) (fI cda cc : Addr) (nm qual sf x : Str) (params : Arguments) (scope : Scope) (dV kV doc pm ct oc ccl cl : Value) (an od cdd cld : Option Addr) (osl ccs csl : Array (Option Value)) (p0 p1 p2 p3 p4 p5 p6 p7 p8 p9 : Pos) (vs : Array Value) (file : Str) (tf : Tok) (ar : Arg) : Prop where
  FN : ExcBaseFacts Bn newId initn bmn
  hBn : bmB.contains (.type Bn) = true
  hAt : bmB.contains (.type "AttributeError") = false
  hNm : bmB.contains (.type "NameError") = false
  FB : InitF B initId
  KF : PySem.W.KxsFacts B initId
  SF : StoreFacts B bmB "object.__setattr__" "object"
  iC : PySem.W.findIn K (.ref C) "__init__" = some (some (.ref fI))
  tI : PySem.W.typeIn K (.ref fI) = some (.type "function")
  qi : PySem.W.excInitIn K C bmB newId = true
  qo : PySem.W.excOver K C bmB = true
  sa : PySem.W.findIn K (.ref C) "__setattr__" = some (some (.builtin "object.__setattr__"))
  hd : PySem.W.hasDictIn K C = true
  hno : PySem.W.findIn K (.ref C) f = some none
  hB : PySem.W.subIn K (.ref C) (.type B) = some true
  hCC : PySem.W.mroIn K C (.ref C) = some true
  ho : PySem.W.nsIn K cStatics "thirdparty.any" = some none
  hsu : PySem.W.ks_superIn K C C "__init__" = some (some (.builtin initId))
  lk : K.lookup fI = some ⟨oc, od, .func (PySem.W.ksFn nm qual params (xiBody sf x f p0 p1 p2 p3 p4 p5 p6 p7 p8 p9) scope dV kV doc pm an (.ref cda) ct cc), osl⟩
  hcd : PySem.W.codeIn K (.ref cda) qual = true
  hpar : (params.posonlyargs ++ params.args).head? = some ar
  har : ar.arg = sf
  hcode : K.lookup cda = some ⟨ccl, cdd, .fields vs, ccs⟩
  hvs : vs[2]? = some (.str file tf)
  hfile : ((prog.main.file : Str) == file) = true
  hcell : K.lookup cc = some ⟨cl, cld, .cell (some (.ref C)), csl⟩
  hks : scope.names.lookup ("super" : Str) = some .globalImplicit
  hkc : scope.names.lookup ("__class__" : Str) = some .free
  hka : scope.names.lookup sf = some .local
  hkx : scope.names.lookup x = some .local
  hk : scope.kind = .function
  hnc : ∀ y ∈ scope.names, y.2 ≠ .cell
  hco : scope.isCoroutine = false
  hgen : scope.isGenerator = false
  hmg : mg "super" = none
  htop : (prog.main.scope.names.lookup ("super" : Str)).isSome = false
  hev : ∀ L, XiEq sf x f p0 p1 p2 p3 p4 p5 p6 p7 p8 p9 (PySem.W.ksEnv qual scope L fI (.ref cda) cc)
  hsx : sf ≠ x
  hdx : (x == ("__debug__" : Str)) = false
  hds : (sf == ("__debug__" : Str)) = false
  hbind : ∀ s e u, BindsTo s (PySem.W.ksFn nm qual params (xiBody sf x f p0 p1 p2 p3 p4 p5 p6 p7 p8 p9) scope dV kV doc pm an (.ref cda) ct cc) ⟨[.ref e, u], []⟩ [(sf, .ref e), (x, u)]
structure XIc (prog : Program) (K : PySem.W.Frag) (mg : Str → Option Value) (C : Addr) (f : Str) : Prop where
  ex : ∃ (B Bn newId initn initId : String) (bmB bmn : List Value) (fI cda cc : Addr) (nm qual sf x : Str) (params : Arguments) (scope : Scope) (dV kV doc pm ct oc ccl cl : Value) (an od cdd cld : Option Addr) (osl ccs csl : Array (Option Value)) (p0 p1 p2 p3 p4 p5 p6 p7 p8 p9 : Pos) (vs : Array Value) (file : Str) (tf : Tok) (ar : Arg), XIf prog K mg C f B Bn newId initn initId bmB bmn fI cda cc nm qual sf x params scope dV kV doc pm ct oc ccl cl an od cdd cld osl ccs csl p0 p1 p2 p3 p4 p5 p6 p7 p8 p9 vs file tf ar
/-- an own exception class whose __init__ is a built-in's -/
structure XPc (K : PySem.W.Frag) (C : Addr) : Prop where
  ex : ∃ (B newId initId : String) (bmB : List Value), ExcBaseFacts B newId initId bmB ∧ PySem.W.findIn K (.ref C) "__init__" = some (some (.builtin initId)) ∧ PySem.W.excInitIn K C bmB newId = true
section
variable {X : Cx} {C : Addr} {f : Str} {k : Nat}
theorem call_xi (T : XIc X.prog X.K X.mg C f) (hr : Room k X.A) : CallR X (.ref C) (fun xs H Q => ∃ y, xs = [y] ∧ ∀ a dx, H a = none → H dx = none → dx ≠ a → Q (.ref a) (upd (upd H dx (exd dx [(f, y)])) a (exo a C (some dx)))) := by
  intro pins s σ H xs us Q I r ⟨y, ex, q⟩
  subst ex
  obtain ⟨B, Bn, newId, initn, initId, bmB, bmn, fI, cda, cc, nm, qual, sf, x, params, scope, dV, kV, doc, pm, ct, oc, ccl, cl, an, od, cdd, cld, osl, ccs, csl, p0, p1, p2, p3, p4, p5, p6, p7, p8, p9, vs, file, tf, ar, T⟩ := T.ex
  obtain ⟨u, rfl, ru⟩ : ∃ u, us = [u] ∧ RelV y u := by
    cases r with
    | cons a b => cases b; exact ⟨_, rfl, a⟩
  obtain ⟨nm', N', qn, bs, bm, hdct, sn, sub, ab, col, dd, k0, k1, k2, k3, k5, hC, hT⟩ := PySem.W.excInit_of I.kIn T.qi
  obtain ⟨hp, g, dr, tk, os⟩ := s
  have hb1 : ∀ b o, X.base.get? b = some o → hp.get? b = some o := I.bk
  have kk : ∀ b o, hp.get? b = some o → ((hp.push (PySem.W.kdv_tup [u])).push (PySem.HandSPX.excO C hp.objs.size)).get? b = some o := fun b o e => Heap.get?_push_of_some _ (Heap.get?_push_of_some _ e)
  have hget : ((hp.push (PySem.W.kdv_tup [u])).push (PySem.HandSPX.excO C hp.objs.size)).get? (hp.objs.size + 1) = some (xiObj C hp.objs.size none) := by heap_get
  have hnb : X.base.get? (hp.objs.size + 1) = none := by
    cases z : X.base.get? (hp.objs.size + 1) with
    | none => rfl
    | some o => exact absurd (Heap.lt_size (hb1 _ _ z)) (Nat.not_lt.mpr (Nat.le_succ _))
  refine wpAny_call (callK T.FN (by rw [hT]; exact T.hBn) (by rw [hT]; exact T.hAt) (by rw [hT]; exact T.hNm) hC (PySem.W.looks_findIn I.kIn T.iC) (fun self => PySem.W.bind_fn I.kIn self T.tI) (by show 1 ≤ sizeLine; rw [sizeLine_eq]; omega) ?_)
  refine xi_run T.FB T.KF T.SF I.ok.mod (fun b o z => kk b o (hb1 b o z)) hnb T.qi T.qo T.sa T.hd T.hno T.hB T.hCC T.ho T.hsu T.lk T.hcd T.hpar T.har T.hcode T.hvs T.hfile T.hcell T.hks T.hkc T.hka T.hkx T.hk T.hnc T.hco T.hgen T.hmg T.htop T.hev T.hsx T.hdx T.hds (fun s => T.hbind s _ _) ?_ hget ?_
  · have z := hr.dp
    rw [make_depth]
    omega
  intro h' tk' dx t1 kp hn ne hx hns
  have kA : ∀ b o, hp.get? b = some o → h'.get? b = some o := fun b o e => kp b o (Nat.ne_of_lt (Nat.lt_succ_of_lt (Heap.lt_size e))) (kk b o e)
  have ha : H (hp.objs.size + 1) = none := I.hok.fresh (Nat.le_succ _)
  have hnd : hp.get? dx = none := by
    cases z : hp.get? dx with
    | none => rfl
    | some o => rw [kk _ _ z] at hn; cases hn
  have hd0 : H dx = none := I.hok.gone hnd
  have nb : ∀ {b : Addr} {o : Obj}, hp.get? b = some o → b ≠ hp.objs.size + 1 ∧ b ≠ dx := fun {b o} e => ⟨Nat.ne_of_lt (Nat.lt_succ_of_lt (Heap.lt_size e)), fun z => by rw [z, hnd] at e; cases e⟩
  have U : Un X.fs [] H (upd (upd H dx (exd dx [(f, y)])) (hp.objs.size + 1) (exo (hp.objs.size + 1) C (some dx))) hp h' := {
    keep := fun b o e _ _ _ => kA b o e
    slot := fun b o e _ _ _ => ⟨o.slots, kA b o e⟩
    free := fun b o e n _ => by rw [upd_ne (nb e).1, upd_ne (nb e).2]; exact n
    there := fun b o e _ => ⟨o, kA b o e⟩
    tups := fun b xs e => by rw [upd_ne (ne_of_none e ha), upd_ne (ne_of_none e hd0)]; exact e
    frzs := fun b o v e => by rw [upd_ne (ne_of_none e ha), upd_ne (ne_of_none e hd0)]; exact e
    tbls := fun b ps e => ⟨#[], by rw [upd_ne (ne_of_none e ha), upd_ne (ne_of_none e hd0), e]; simp⟩ }
  refine ⟨rfl, .ref (hp.objs.size + 1), _, I.un (t' := tk') U fun b o e => ?_, rfl, q _ dx ha hd0 ne⟩
  by_cases hb : b = hp.objs.size + 1
  · subst hb
    rw [upd_same] at e
    cases e
    exact exo_ok hx
  · rw [upd_ne hb] at e
    by_cases hd' : b = dx
    · subst hd'
      rw [upd_same] at e
      cases e
      exact exd_ok hns (relO_put (fs := []) ru fun g => True.intro)
    · rw [upd_ne hd'] at e
      exact (I.hok b o e).stay (fun c v hc z => kA c v z) (fun c hc => by rw [upd_ne (ne_of_none hc ha), upd_ne (ne_of_none hc hd0)]; exact hc) (fun c xs hc => by rw [upd_ne (ne_of_none hc ha), upd_ne (ne_of_none hc hd0)]; exact hc)
theorem call_xp (T : XPc X.K C) : CallR X (.ref C) (fun xs H Q => xs.length ≤ 1000 ∧ ∀ a, H a = none → Q (.ref a) (upd H a (exo a C none))) := by
  intro pins s σ H xs us Q I r ⟨hl, q⟩
  obtain ⟨B, newId, initId, bmB, FB, iC, qi⟩ := T.ex
  obtain ⟨nm', N', qn, bs, bm, hdct, sn, sub, ab, col, dd, k0, k1, k2, k3, k5, hC, hT⟩ := PySem.W.excInit_of I.kIn qi
  obtain ⟨hp, g, dr, tk, os⟩ := s
  refine PySem.W.call_B FB hT hC (PySem.W.looks_findIn I.kIn iC) (by rw [← Paired.length r, sizeLine_eq]; omega) fun h' kp hx _ => ?_
  have hn : hp.get? (hp.objs.size + 1) = none := Heap.get?_none_of_le (Nat.le_succ _)
  exact ⟨.ref (hp.objs.size + 1), _, I.laidN (t' := tk) kp hn (I.hok.fresh (Nat.le_succ _)) (exo_ok hx), rfl, q _ (I.hok.fresh (Nat.le_succ _))⟩
end
/-! ### what an exception is -/
theorem clsT_exc {c : Nat} {ci : Cls} (h : clsT[c]? = some ci) (he : ci.exc = true) : ci.slots = false := by
  have a : ∀ x ∈ clsT, x.exc = true → x.slots = false := by
    have z : (clsT.all fun x => !x.exc || !x.slots) = true := rfl
    intro x hx e
    have := List.all_eq_true.mp z x hx
    rw [e] at this
    simpa using this
  exact a ci (List.mem_of_getElem? h) he
theorem ObO.ex {K : KM} {F : Hp} {q : Addr} {vs : List V} {o : HO} {c : Nat} {ci : Cls} (h : ObO K F q c vs o) (hci : clsT[c]? = some ci) (he : ci.exc = true) :
    ∃ C, K.mg ci.name = some (.ref C) ∧ ((ci.flds = [] ∧ vs = [] ∧ o = L2.exo q C none) ∨ ∃ f v dx, ci.flds = [f] ∧ vs = [v] ∧ o = L2.exo q C (some dx) ∧ F dx = some (L2.exd dx [(f, v)])) := by
  obtain ⟨ci', C, dx, h1, h2, h3⟩ := h
  rw [hci] at h1
  cases h1
  rcases h3 with ⟨z, _⟩ | ⟨_, z | ⟨f, v, z⟩⟩ | ⟨_, z, _⟩
  · rw [clsT_exc hci he] at z; cases z
  · exact ⟨C, h2, .inl z⟩
  · exact ⟨C, h2, .inr ⟨f, v, dx, z⟩⟩
  · rw [he] at z; cases z
/-- what an own exception class must say, so that its instances are read -/
structure XCl (K : PySem.W.Frag) (C : Addr) : Prop where
  hcl : (PySem.W.clsIn K C).isSome = true
  hdC : PySem.W.hasDictIn K C = true
  hga : PySem.W.findIn K (.ref C) "__getattribute__" = some (some (.builtin "BaseException.__getattribute__"))
  hgt : PySem.W.findIn K (.ref C) "__getattr__" = some none
  hsub : PySem.W.subIn K (.ref C) (.type "BaseException") = some true
  ha : PySem.W.findIn K (.ref C) "__class__" = some (some (.builtin "object.__class__"))
  hn : PySem.W.specialIn K (.builtin "object.__class__") "__get__" = some (some (.builtin "getset_descriptor.__get__"))
  ht : PySem.W.takesIn K (.builtin "object.__class__") = some true
  hm : PySem.W.mroIn K C (.type "object") = some true
/-- an exception at a -/
def ExAt (H : Hp) (a C : Addr) (vs : List (Str × V)) : Prop := (vs = [] ∧ H a = some (exo a C none)) ∨ ∃ dx, H a = some (exo a C (some dx)) ∧ H dx = some (exd dx vs)
section
variable {X : Cx} {C a : Addr} {H : Hp} {pins : List (Addr × Obj)} {σ : L2.St} {s : Shared} {vs : List (Str × V)}
theorem exAt_get (I : Inv X pins σ H s) (h : ExAt H a C vs) : ∃ ox od, PySem.W.InstAt s.heap a ox C od ∧ (od = none ∧ vs = [] ∨ ∃ dx mA o, od = some o ∧ s.heap.Ns1 dx mA ∧ s.heap.get? dx = some o ∧ ∀ f, RelO (vs.lookup f) (mA f)) := by
  rcases h with ⟨hv, h⟩ | ⟨dx, h, hd⟩
  · obtain ⟨t1, ho⟩ := exo_at I.hok h
    exact ⟨_, none, ⟨ho, rfl, rfl, trivial⟩, .inl ⟨rfl, hv⟩⟩
  · obtain ⟨t1, ho⟩ := exo_at I.hok h
    obtain ⟨mA, hns, rel⟩ := exd_at I.hok hd
    obtain ⟨o, es, ep, e1, e2⟩ := id hns
    exact ⟨_, some o, ⟨ho, rfl, rfl, e1⟩, .inr ⟨dx, mA, o, rfl, hns, e1, rel⟩⟩
theorem call_isX : CallR X (.builtin "isinstance") (fun xs H Q => ∃ a C vs cV cv b, xs = [.ref a, cV] ∧ ExAt H a C vs ∧ XCl X.K C ∧ (∀ u, RelV cV u → u = cv) ∧ PySem.W.kitOne X.K (.ref C) cv = some b ∧ Q (.bl b) H) := by
  intro pins s σ H xs us Q I r ⟨a, C, vs, cV, cv, b, ex, hx, T, hc, hk, q⟩
  subst ex
  obtain ⟨u1, u2, rfl, r1, r2⟩ := r.two
  cases (show u1 = Value.ref a from r1)
  have e2 := hc _ r2
  subst e2
  obtain ⟨ox, od, J, _⟩ := exAt_get I hx
  exact PySem.W.kia_one (PySem.W.kitx_exc T.hcl T.hga T.hgt T.hsub T.ha T.hn T.ht T.hm) I.kIn J hk (fun z => nomatch z) fun tk => ⟨.bl b, H, I.tok _, rfl, q⟩
/-- o.f of an exception -/
theorem pe_fldX {e : Expr} {te : TE} {f : Str} {pos : Pos} (he : PE X e te) (hb : attributeBase e f X.env (eval e X.env) = eval e X.env) :
    PE X (.Attribute e f pos) (fun σ H Q => te σ H fun x H1 => ∃ a C vs v, x = .ref a ∧ ExAt H1 a C vs ∧ XCl X.K C ∧ PySem.W.findIn X.K (.ref C) f = some none ∧ vs.lookup f = some v ∧ Q v H1) := by
  refine ⟨fun pins s σ H Q I h => ?_⟩
  refine attr_of hb (thn (he.run pins s σ H _ I h) fun u s1 hh => ?_)
  obtain ⟨x, H1, I1, rx, a, C, vs, v, ex, hx, T, hno, l, q⟩ := hh
  subst ex
  obtain rfl : u = Value.ref a := rx
  obtain ⟨ox, od, J, j⟩ := exAt_get I1 hx
  rcases j with ⟨_, z⟩ | ⟨dx, mA, o, rfl, hns, ho, rel⟩
  · rw [z] at l; cases l
  · obtain ⟨od', ho', hl⟩ := lookIn_ns hns
    rw [ho] at ho'
    cases ho'
    obtain ⟨u, hu, ru⟩ := RelO.some_of (v := v) (o := mA f) (by rw [← l]; exact rel f)
    exact HandSPX.exc_get I1.kIn J T.hga T.hgt T.hsub (PySem.W.findObj_own T.hdC hno rfl (by rw [hl, hu])) (handed_of ru) ⟨v, H1, I1.tok _, ru, q⟩
end
section
variable {B : Bs} {X : Cx} {e a b : Expr} {es : List Expr} {pos p p2 : Pos} {np : Nat} {cf : Nat → List Sl → CRes} {ca cb : C} {x f nm : Str} {c k : Nat} {ci : Cls} {Ca : Addr}
theorem obj_ex {F H : Hp} {l : List D} {v : V} {K : KM} (hci : clsT[c]? = some ci) (he : ci.exc = true) (sm : Same F H) (q : Ct K F H (.obj c l) v) : ∃ a C vs ws, v = .ref a ∧ K.mg ci.name = some (.ref C) ∧ ExAt H a C vs ∧ vs.map (·.1) = ci.flds ∧ vs.map (·.2) = ws ∧ RpL K F l ws := by
  obtain ⟨a, o, ws, rfl, g1, g2, g3⟩ := q.obj sm
  obtain ⟨C, hm, ⟨h1, h2, h3⟩ | ⟨f, v, dx, h1, h2, h3, h4⟩⟩ := g2.ex hci he
  · subst h2 h3
    exact ⟨a, C, [], [], rfl, hm, .inl ⟨rfl, g1⟩, h1.symm, rfl, g3⟩
  · subst h2 h3
    exact ⟨a, C, [(f, v)], [v], rfl, hm, .inr ⟨dx, g1, sm _ _ h4⟩, h1.symm, rfl, g3⟩
/-- what the class value cv, named nm, says of each own exception -/
def IsX (K : PySem.W.Frag) (mg : Str → Option Value) (nm : Str) (cv : Value) : Prop := ∀ (c : Nat) (ci : Cls) (C : Addr), clsT[c]? = some ci → ci.exc = true → mg ci.name = some (.ref C) → XCl K C ∧ PySem.W.kitOne K (.ref C) cv = some (ci.sup.contains nm)
theorem se_isiX {cV : V} {cv : Value} (T : IsX X.K X.mg nm cv) (hcv : ∀ u, RelV cV u → u = cv) (hg : Gl X "isinstance") (hm : X.mg "isinstance" = none) (hp : PE X (.Name x p2) (tC cV))
    (hs : starEach [a, .Name x p2] X.env = (false, eval a X.env) :: starEach [.Name x p2] X.env) (ha : SE B X a (evE np cf ca)) : SE B X (.Call (.Name "isinstance" p) [a, .Name x p2] [] pos) (evE np cf (.isiX nm ca)) := by
  intro F H ρ σ Q hr ⟨r, ρ', hm', k⟩
  obtain ⟨z, ρ1, h1, m1⟩ := bind_ok hm'
  obtain ⟨b', ρ2, h2, m2⟩ := bind_ok m1
  obtain ⟨ho, e0⟩ := ofO_ok h2
  subst e0
  cases m2
  obtain ⟨d, e1, e2⟩ := obind_some ho
  refine ge_of (pe_callB call_isX hg hm (by decide +kernel) (pa_cons pe_ge (pa_cons hp pa_nil rfl) hs) (by decide) (by decide) hs rfl) ?_
  refine ha F H ρ σ _ hr ⟨z, _, h1, fun v F1 H1 P q f => ?_⟩
  cases d with
  | obj c l =>
    have e3 : ((clsT[c]?).bind fun ci => if ci.exc then some (ci.sup.contains nm) else none) = some b' := e2
    obtain ⟨ci, hci, e4⟩ := obind_some e3
    by_cases he : ci.exc = true
    · rw [if_pos he] at e4
      cases e4
      obtain ⟨a', C, vs, ws, rfl, hmg, hx, _⟩ := obj_ex (K := km X) hci he P.rel.same (der_ct P.rel q e1)
      obtain ⟨T1, T2⟩ := T c ci C hci he hmg
      exact ⟨a', C, vs, cV, cv, _, rfl, hx, T1, hcv, T2, k _ F1 H1 P rfl trivial⟩
    · rw [if_neg he] at e4; cases e4
  | _ => cases e2
theorem se_fldX (hci : clsT[c]? = some ci) (he : ci.exc = true) (hf : ci.flds = [f]) (hT : ∀ C, X.mg ci.name = some (.ref C) → XCl X.K C ∧ PySem.W.findIn X.K (.ref C) f = some none) (hb : attributeBase e f X.env (eval e X.env) = eval e X.env)
    (ha : SE B X e (evE np cf ca)) : SE B X (.Attribute e f pos) (evE np cf (.fld c 0 ca)) := by
  intro F H ρ σ Q hr ⟨r, ρ', hm', kk⟩
  obtain ⟨y, ρ1, h1, m1⟩ := bind_ok hm'
  obtain ⟨d, ρ2, m2, m3⟩ := bind_ok m1
  obtain ⟨e1, e2⟩ := ofO_ok m2
  subst e2
  cases m3
  obtain ⟨dy, hy, hf'⟩ := obind_some e1
  obtain ⟨l, rfl, hl⟩ := fldD_ok hf'
  refine ge_of (pe_fldX pe_ge hb) (ha F H ρ σ _ hr ⟨y, _, h1, fun v F1 H1 P q _ => ?_⟩)
  obtain ⟨a', C, vs, ws, rfl, hmg, hx, i1, i2, i3⟩ := obj_ex (K := km X) hci he P.rel.same (der_ct P.rel q hy)
  obtain ⟨v', hv', rv⟩ := i3.get hl
  obtain ⟨T1, T2⟩ := hT C hmg
  rw [hf] at i1
  obtain ⟨w, rfl⟩ : ∃ w, vs = [(f, w)] := by
    cases vs with
    | nil => cases i1
    | cons t r =>
      cases r with
      | nil =>
        obtain ⟨t1, t2⟩ := t
        cases i1
        exact ⟨t2, rfl⟩
      | cons _ _ => cases i1
  subst i2
  cases hv'
  exact ⟨a', C, _, w, rfl, hx, T1, T2, by simp [List.lookup], kk w F1 H1 P rv trivial⟩
/-! ### an exception made -/
theorem pe_callC {rc : List V → Hp → VK → Prop} {t : TA} (ok : CallR X (.ref Ca) rc) (hg : Gl X x) (hm : X.mg x = some (.ref Ca)) (kC : PySem.W.keepIn X.K (.ref Ca) = true) (ha : PA X (e :: es) t) (hdb : (x == ("__debug__" : Str)) = false)
    (he : starEach (e :: es) X.env = (false, eval e X.env) :: starEach es X.env) (hpl : (PySem.backTo pos (starEach es X.env)).any (·.1) = false) : PE X (.Call (.Name x p) (e :: es) [] pos) (fun σ H Q => t σ H fun vs H1 => rc vs H1 Q) := by
  refine ⟨fun pins s σ H Q I h => ?_⟩
  refine wpAny_Call_Name_kw (ld_glob I hg hm ?_ hdb)
  exact PySem.W.callWith_K (h₀ := X.base) I.ok.mod.kin kC (thn (ha.run pos pins s σ H _ I h) fun us s1 ⟨vs, H1, I1, r, q⟩ => ⟨I1.kIn, ok pins s1 σ H1 vs us Q I1 r q⟩) he hpl
theorem pe_callC0 {rc : List V → Hp → VK → Prop} (ok : CallR X (.ref Ca) rc) (hg : Gl X x) (hm : X.mg x = some (.ref Ca)) (kC : PySem.W.keepIn X.K (.ref Ca) = true) (hdb : (x == ("__debug__" : Str)) = false) : PE X (.Call (.Name x p) [] [] pos) (fun σ H Q => rc [] H Q) := by
  refine ⟨fun pins s σ H Q I h => ?_⟩
  refine wpAny_Call_Name_kw (ld_glob I hg hm ?_ hdb)
  exact PySem.W.callWith_K0 I.kIn kC (ok pins s σ H [] [] Q I .nil h)
theorem mkXD_ok {l : List D} {d : D} (h : mkXD c l = some d) (hci : clsT[c]? = some ci) : ci.exc = true ∧ ((ci.flds = [] ∧ l.length ≤ 1000 ∧ d = .obj c []) ∨ ∃ f y, ci.flds = [f] ∧ l = [y] ∧ d = .obj c [y]) := by
  unfold mkXD at h
  rw [hci] at h
  have h' : (if ci.exc then (if ci.flds.length = 0 then (if l.length ≤ 1000 then some (D.obj c []) else none) else if ci.flds.length = 1 ∧ l.length = 1 then some (.obj c l) else none) else none) = some d := h
  clear h
  split at h'
  · rename_i he
    refine ⟨he, ?_⟩
    split at h'
    · rename_i h0
      split at h'
      · rename_i h1
        cases h'
        exact .inl ⟨List.length_eq_zero_iff.mp h0, h1, rfl⟩
      · cases h'
    · split at h'
      · rename_i h1
        cases h'
        obtain ⟨f, hf⟩ := List.length_eq_one_iff.mp h1.1
        obtain ⟨y, hy⟩ := List.length_eq_one_iff.mp h1.2
        exact .inr ⟨f, y, hf, hy, by rw [hy]⟩
      · cases h'
  · cases h'
theorem newX {K : KM} {F H F1 H1 : Hp} {ρ ρ1 : Rho} {σ : L2.St} {q : Addr} (o : HO) (hr : Rel K B F H ρ σ) (P : Post K B σ F H ρ F1 H1 ρ1) (hq : H1 q = none) : Post K B σ F H ρ (upd F1 q o) (upd H1 q o) ρ1 := by
  obtain ⟨n1, n2⟩ := P.rel.newFree hq
  refine (P.trans (Post.new (o := o) P.rel hq)).freezeNew hr upd_same n1 n2 ?_
  cases z : H q with
  | none => rfl
  | some y =>
    obtain ⟨_, w⟩ := P.dom q y z
    rw [hq] at w
    cases w
theorem mkP_run {F H F1 H1 : Hp} {ρ ρ1 : Rho} {σ : L2.St} {Q : VK} (hci : clsT[c]? = some ci) (he : ci.exc = true) (hf : ci.flds = []) (hm : X.mg ci.name = some (.ref Ca)) (hr : Rel (km X) B F H ρ σ) (P : Post (km X) B σ F H ρ F1 H1 ρ1)
    (kk : ∀ v F' H', Post (km X) B σ F H ρ F' H' ρ1 → RvOk (km X) F' H' ρ1 σ (.fz (.obj c [])) v → Fresh H (.fz (.obj c [])) v → Q v H') (q : Addr) (hq : H1 q = none) : Q (.ref q) (upd H1 q (exo q Ca none)) :=
  kk _ _ _ (newX _ hr P hq) ⟨q, _, [], rfl, upd_same, ⟨ci, Ca, q, hci, hm, .inr (.inl ⟨he, .inl ⟨hf, rfl, rfl⟩⟩)⟩, rfl⟩ trivial
theorem se_mkP (T : XPc X.K Ca) (hci : clsT[c]? = some ci) (hx : ci.name = x) (hfl : ci.flds = []) (hg : Gl X x) (hm : X.mg x = some (.ref Ca)) (kC : PySem.W.keepIn X.K (.ref Ca) = true) (hdb : (x == ("__debug__" : Str)) = false)
    (he : starEach (e :: es) X.env = (false, eval e X.env) :: starEach es X.env) (hpl : (PySem.backTo pos (starEach es X.env)).any (·.1) = false) (ha : SL B X (e :: es) (evEs np cf ca)) : SE B X (.Call (.Name x p) (e :: es) [] pos) (evE np cf (.mkX c ca)) := by
  intro F H ρ σ Q hr ⟨r, ρ', hm', kk⟩
  obtain ⟨l, ρ1, h1, m1⟩ := bind_ok hm'
  obtain ⟨d, ρ2, h2, m2⟩ := bind_ok m1
  obtain ⟨ho, e0⟩ := ofO_ok h2
  subst e0
  cases m2
  obtain ⟨hex, ⟨_, hl, rfl⟩ | ⟨f, y, z, _⟩⟩ := mkXD_ok ho hci
  · refine ge_of (pe_callC (call_xp T) hg hm kC pa_ga hdb he hpl) (ha F H ρ σ _ hr ⟨l, _, h1, fun vs F1 H1 P q => ⟨by rw [q.length]; exact hl, fun q' hq => ?_⟩⟩)
    exact mkP_run hci hex hfl (by rw [hx]; exact hm) hr P kk q' hq
  · rw [hfl] at z; cases z
theorem se_mkP0 (T : XPc X.K Ca) (hci : clsT[c]? = some ci) (hx : ci.name = x) (hfl : ci.flds = []) (hg : Gl X x) (hm : X.mg x = some (.ref Ca)) (kC : PySem.W.keepIn X.K (.ref Ca) = true) (hdb : (x == ("__debug__" : Str)) = false) : SE B X (.Call (.Name x p) [] [] pos) (evE np cf (.mkX c .nil)) := by
  intro F H ρ σ Q hr ⟨r, ρ', hm', kk⟩
  obtain ⟨l, ρ1, h1, m1⟩ := bind_ok hm'
  cases h1
  obtain ⟨d, ρ2, h2, m2⟩ := bind_ok m1
  obtain ⟨ho, e0⟩ := ofO_ok h2
  subst e0
  cases m2
  obtain ⟨hex, ⟨_, hl, rfl⟩ | ⟨f, y, z, _⟩⟩ := mkXD_ok ho hci
  · refine ge_of (pe_callC0 (call_xp T) hg hm kC hdb) ⟨by decide, fun q' hq => ?_⟩
    exact mkP_run hci hex hfl (by rw [hx]; exact hm) hr (Post.refl hr) kk q' hq
  · rw [hfl] at z; cases z
theorem se_mkI (T : XIc X.prog X.K X.mg Ca f) (hrm : Room k X.A) (hci : clsT[c]? = some ci) (hx : ci.name = x) (hfl : ci.flds = [f]) (hg : Gl X x) (hm : X.mg x = some (.ref Ca)) (kC : PySem.W.keepIn X.K (.ref Ca) = true) (hdb : (x == ("__debug__" : Str)) = false)
    (he : starEach (e :: es) X.env = (false, eval e X.env) :: starEach es X.env) (hpl : (PySem.backTo pos (starEach es X.env)).any (·.1) = false) (ha : SL B X (e :: es) (evEs np cf ca)) : SE B X (.Call (.Name x p) (e :: es) [] pos) (evE np cf (.mkX c ca)) := by
  intro F H ρ σ Q hr ⟨r, ρ', hm', kk⟩
  obtain ⟨l, ρ1, h1, m1⟩ := bind_ok hm'
  obtain ⟨d, ρ2, h2, m2⟩ := bind_ok m1
  obtain ⟨ho, e0⟩ := ofO_ok h2
  subst e0
  cases m2
  obtain ⟨hex, ⟨z, _, _⟩ | ⟨f', y, hf', rfl, rfl⟩⟩ := mkXD_ok ho hci
  · rw [hfl] at z; cases z
  · refine ge_of (pe_callC (call_xi T hrm) hg hm kC pa_ga hdb he hpl) (ha F H ρ σ _ hr ⟨_, _, h1, fun vs F1 H1 P q => ?_⟩)
    obtain ⟨vy, rr, rfl, ry, rn⟩ := q
    cases (show rr = [] from rn)
    refine ⟨vy, rfl, fun q' dx hq hdx hne => ?_⟩
    have P1 := newX (exd dx [(f, vy)]) hr P hdx
    have hq1 : upd H1 dx (exd dx [(f, vy)]) q' = none := by rw [upd_ne (Ne.symm hne)]; exact hq
    have P2 := newX (exo q' Ca (some dx)) hr P1 hq1
    have sm : Same F1 (upd (upd F1 dx (exd dx [(f, vy)])) q' (exo q' Ca (some dx))) := fun b o z => by
      rw [upd_ne (ne_of_none z (P.rel.newFree hq).1), upd_ne (ne_of_none z (P.rel.newFree hdx).1)]; exact z
    refine kk _ _ _ P2 ⟨q', _, [vy], rfl, upd_same, ⟨ci, Ca, dx, hci, by rw [hx]; exact hm, .inr (.inl ⟨hex, .inr ⟨f, vy, hfl, rfl, rfl, ?_⟩⟩)⟩, RpL.one (Rp.mono sm _ _ ry)⟩ trivial
    rw [upd_ne hne]; exact upd_same
end
end PV

/-! PvX3: dict displays with texts as keys. -/
namespace PV
open PySem L2
section
variable {K : KM} {B : Bs} {σ : L2.St} {F F1 H H1 : Hp} {ρ ρ1 : Rho}
/-- a new thing that no name holds changes -/
theorem Post.put {p : Addr} {o : HO} (o' : HO) (h0 : Rel K B F H ρ σ) (a : Post K B σ F H ρ F1 H1 ρ1) (e2 : H1 p = some o) (e3 : F1 p = none) (n : ∀ i, ¬ OwnAt ρ1 σ i p) (hf : H p = none) : Post K B σ F H ρ F1 (upd H1 p o') ρ1 := by
  have h := a.rel
  have hB : B.H p = none := by
    cases q : B.H p with
    | none => rfl
    | some x =>
      obtain ⟨_, z⟩ := h0.dom p x q
      rw [hf] at z
      cases z
  have smH : Same F1 (upd H1 p o') := fun b x q => by
    rw [upd_ne (ne_of_none q e3)]
    exact h.same b x q
  have hdom : ∀ b x, H1 b = some x → ∃ y, upd H1 p o' b = some y := fun b x q => by
    by_cases hb : b = p
    · subst hb; exact ⟨_, upd_same⟩
    · rw [upd_ne hb]; exact ⟨x, q⟩
  refine ⟨a.same, ⟨smH, h.len, fun j => ?_, h.dis, h.sameB, fun b x g m => by rw [upd_ne (ne_of_none g hB)]; exact h.pre b x g m, fun b x g => ?_, h.frz, h.loc, h.par, h.arg⟩, fun b x q m => by rw [upd_ne (ne_of_none q hf)]; exact a.pres b x q m, fun b x g => ?_, a.own, a.fr, a.live⟩
  · have sj := h.sl j
    cases g : ρ1[j]? with
    | none => trivial
    | some w =>
      rw [g] at sj
      cases w with
      | un => trivial
      | fz d' => exact sj
      | ow d' =>
        obtain ⟨p', o2, q1, q2, q3, q4⟩ := sj
        have hpp : p' ≠ p := fun z => n j ⟨d', g, by rw [q1, z]⟩
        exact ⟨p', o2, q1, by rw [upd_ne hpp]; exact q2, q3, q4⟩
  · obtain ⟨y, q⟩ := h.dom b x g
    exact hdom b y q
  · obtain ⟨y, q⟩ := a.dom b x g
    exact hdom b y q
end
theorem mergeK_new : ∀ (more acc : List (Key × V)), (more.map (·.1)).Nodup → (∀ k ∈ more.map (·.1), k ∉ acc.map (·.1)) → mergeK acc more = acc ++ more
  | [], acc, _, _ => by show acc = acc ++ []; rw [List.append_nil]
  | p :: r, acc, hn, hd => by
    have hn' : p.1 ∉ r.map (·.1) ∧ (r.map (·.1)).Nodup := by simpa using hn
    have hp : putK acc p.1 p.2 = acc ++ [p] := by
      unfold putK
      rw [if_neg]
      intro z
      obtain ⟨kv, h1, h2⟩ := List.any_eq_true.mp z
      exact hd p.1 (by simp) (List.mem_map.mpr ⟨kv, h1, by simpa using h2⟩)
    show mergeK (putK acc p.1 p.2) r = _
    rw [hp, mergeK_new r _ hn'.2 fun k hk => ?_, List.append_assoc]
    · rfl
    · rw [List.map_append]
      intro z
      rcases List.mem_append.mp z with z | z
      · exact hd k (List.mem_cons_of_mem _ hk) z
      · have z' : k = p.1 := by simpa using z
        exact hn'.1 (z' ▸ hk)
section
variable {B : Bs} {X : Cx} {a : Expr} {pos : Pos} {np : Nat} {cf : Nat → List Sl → CRes} {ca cb : C}
/-- the pairs of a display -/
structure SPr (B : Bs) (X : Cx) (pos : Pos) (keys : List (Option Expr)) (values : List Expr) (ks : List Str) (m : Rho → R (List D)) : Prop where
  ex : ∃ trs, PPs X pos keys values trs ∧ keys.all (·.isSome) = true ∧ keys.length = ks.length ∧ values.length = ks.length ∧
  ∀ F H ρ σ Q, Rel (km X) B F H ρ σ → (∃ l ρ', m ρ = .ok l ρ' ∧ l.length = ks.length ∧ ∀ vs F' H', Post (km X) B σ F H ρ F' H' ρ' → RpL (km X) F' l vs → Q ((ks.zip vs).map fun kv => (V.str kv.1, kv.2)) H') → tPairs trs σ H Q
theorem spr_nil : SPr B X pos [] [] [] (evEs np cf .nil) := by
  refine ⟨⟨[], pps_nil, rfl, rfl, rfl, fun F H ρ σ Q hr ⟨l, ρ', h, hl, k⟩ => ?_⟩⟩
  cases h
  exact k [] F H (Post.refl hr) rfl
theorem spr_cons {x : Str} {j : Nat} {p : Pos} {keys : List (Option Expr)} {values : List Expr} {ks : List Str} (ha : SE B X a (evE np cf ca)) (hb : SPr B X pos keys values ks (evEs np cf cb)) :
    SPr B X pos (some (.Constant (.str x) j p) :: keys) (a :: values) (x :: ks) (evEs np cf (.cons ca cb)) := by
  obtain ⟨trs, h1, h2, h3, h4, h5⟩ := hb.ex
  refine ⟨⟨(tC (.str x), GE X a) :: trs, pps_cons pe_str pe_ge h1, by simpa using h2, by simp [h3], by simp [h4], fun F H ρ σ Q hr ⟨l, ρ', h, hl, k⟩ => ?_⟩⟩
  obtain ⟨r, ρ1, g1, m1⟩ := bind_ok h
  obtain ⟨d, ρ2, g2, m2⟩ := bind_ok m1
  obtain ⟨l', ρ3, g3, m3⟩ := bind_ok m2
  cases m3
  show GE X a σ H _
  refine ha.sd F H ρ σ _ hr ⟨d, ρ2, (by show (evE np cf ca ρ).bind _ = _; rw [g1]; exact g2), fun v F1 H1 P1 q1 => ?_⟩
  refine h5 F1 H1 ρ2 σ _ P1.rel ⟨l', _, g3, by simpa using hl, fun vs F2 H2 P2 q2 => ?_⟩
  exact k (v :: vs) F2 H2 (P1.trans P2) ⟨v, vs, rfl, Rp.mono P2.same d v q1, q2⟩
theorem se_dsp {keys : List (Option Expr)} {values : List Expr} {ks : List Str} (h0 : keys ≠ []) (hb : SPr B X pos keys values ks (evEs np cf ca)) : SE B X (.Dict keys values pos) (evE np cf (.dsp ks ca)) := by
  obtain ⟨trs, h1, h2, h3, h4, h5⟩ := hb.ex
  intro F H ρ σ Q hr ⟨r, ρ', hm, k⟩
  obtain ⟨l, ρ1, g1, m1⟩ := bind_ok hm
  split at m1
  · rename_i hc
    obtain ⟨c1, c2, c3⟩ := hc
    cases m1
    refine ge_of (pe_disp h1 h2 (by rw [h3, h4]) h0 (by rw [h3, c1]; exact c3)) fun p hp => ?_
    have P0 := Post.new (o := HO.dK []) hr hp
    refine h5 F _ ρ σ _ P0.rel ⟨l, _, g1, c1.symm, fun vs F2 H2 P2 q2 => ?_⟩
    have hlen : vs.length = ks.length := by rw [q2.length, c1]
    have hnf := hr.newFree hp
    have e2 : H2 p = some (.dK []) := P2.pres p _ upd_same hnf.2
    have e3 : F2 p = none := P2.fr p _ hnf.1 upd_same hnf.2
    have n2 : ∀ i, ¬ OwnAt ρ' σ i p := fun i z => hnf.2 i (P2.own i p z)
    have hk1 : ((ks.map (Sum.inr : Str → Key)).zip vs).map (·.1) = ks.map Sum.inr := by rw [List.map_fst_zip]; rw [List.length_map, hlen]; exact Nat.le_refl _
    have hk2 : ((ks.map (Sum.inr : Str → Key)).zip vs).map (·.2) = vs := by rw [List.map_snd_zip]; rw [List.length_map, hlen]; exact Nat.le_refl _
    have hnd : (ks.map (Sum.inr : Str → Key)).Nodup := List.Pairwise.map _ (fun a b h z => h (Sum.inr.inj z)) c2
    refine ⟨e2, (ks.map Sum.inr).zip vs, ?_, by rw [List.length_zip, List.length_map, hlen, Nat.min_self, c1]; exact c3, ?_⟩
    · rw [List.zip_map_left, List.map_map]
      rfl
    · rw [mergeK_new _ [] (by rw [hk1]; exact hnd) (fun _ _ z => by cases z), List.nil_append]
      have P3 := Post.put (.dK ((ks.map Sum.inr).zip vs)) hr (P0.trans P2) e2 e3 n2 hp
      exact k _ _ _ P3 ⟨p, _, rfl, upd_same, e3, ⟨_, rfl, hk1, by rw [hk2]; exact q2⟩, n2⟩ fun p' z => by cases z; exact hp
  · cases m1
end
end PV

/-! PvX4: repr of lists and tuples of plain data and dicts. -/
namespace PV
open PySem L2
/-- v is read as d, and shown so -/
def RK (P : Program) (w : World) (h : Heap) (v : Value) (d : PyData) : Prop := ∃ bs as, Reads h v d as ∧ ReadAtMost h d.depth bs ∧ ReprK P w bs h d.depth v d.shown
def RKs (P : Program) (w : World) (h : Heap) (vs : List Value) (ds : List PyData) : Prop := ∃ bs as, ReadsAll h vs ds as ∧ ReadAtMost h (PyData.depthAll ds) bs ∧ ReprAllK P w bs h (PyData.depthAll ds) vs (PyData.shownAll ds)
section
variable {P : Program} {w : World} {h : Heap}
theorem RKs.nil : RKs P w h [] [] := ⟨[], [], .nil, (fun _ z => nomatch z), by simp only [PyData.shownAll]; exact .nil⟩
theorem RKs.cons {v : Value} {d : PyData} {vs : List Value} {ds : List PyData} (a : RK P w h v d) (b : RKs P w h vs ds) : RKs P w h (v :: vs) (d :: ds) := by
  obtain ⟨b1, a1, r1, m1, k1⟩ := a
  obtain ⟨b2, a2, r2, m2, k2⟩ := b
  have l1 : d.depth ≤ PyData.depthAll (d :: ds) := by simp only [PyData.depthAll]; exact Nat.le_max_left _ _
  have l2 : PyData.depthAll ds ≤ PyData.depthAll (d :: ds) := by simp only [PyData.depthAll]; exact Nat.le_max_right _ _
  refine ⟨b1 ++ b2, _, .cons r1 r2, (m1.mono l1).append (m2.mono l2), ?_⟩
  simp only [PyData.shownAll]
  exact .cons ((k1.more fun b z => List.mem_append_left _ z).level_le l1) (k2.more_le (fun b z => List.mem_append_right _ z) l2)
theorem RK.non : RK P w h .none .none := ⟨[], [], .none, (fun _ z => nomatch z), by simp only [PyData.shown]; exact .of_is ReprIs.none _ _ _⟩
theorem RK.bl (b : Bool) : RK P w h (.bool b) (.bool b) := ⟨[], [], .bool b, (fun _ z => nomatch z), by simp only [PyData.shown]; exact .of_is (ReprIs.bool b) _ _ _⟩
theorem RK.int (i : Int) (t : Tok) (hs : (PyData.int i).showable = true) : RK P w h (.int i t) (.int i) := ⟨[], [], .int i t, (fun _ z => nomatch z), by simp only [PyData.shown]; exact .of_is (ReprIs.int t (by simpa [PyData.showable] using hs)) _ _ _⟩
theorem RK.str (x : Str) (t : Tok) (hz : (PyData.str x).shown.length ≤ sizeLine) : RK P w h (.str x t) (.str x) := ⟨[], [], .str x t, (fun _ z => nomatch z), by simp only [PyData.shown] at hz ⊢; exact .of_is (ReprIs.str x t hz) _ _ _⟩
theorem RK.list {a : Addr} {o : Obj} {vs : List Value} {n : Nat} {ds : List PyData} (h1 : h.get? a = some o) (h2 : o.cls = .type "list") (h3 : o.data = .seq vs.toArray n) (b : RKs P w h vs ds) : RK P w h (.ref a) (.list ds) ∧ ∃ bs, a ∉ bs ∧ ReprAllK P w bs h (PyData.depthAll ds) vs (PyData.shownAll ds) := by
  obtain ⟨bs, as, r, m, k⟩ := b
  have rr : Reads h (.ref a) (.list ds) _ := .list h1 h2 h3 r
  have na : a ∉ bs := not_mem_of_deeper rr (by simp only [PyData.depth]; omega) m
  refine ⟨⟨a :: bs, _, rr, .cons rr (by simp only [PyData.depth]; omega) m, ?_⟩, bs, na, k⟩
  simp only [PyData.depth, PyData.shown]
  cases vs with
  | nil =>
    cases r
    simp only [PyData.shownAll, listText_nil]
    exact ReprK.listEmpty h1 h2 h3
  | cons x l => exact ReprK.list h1 h2 h3 na (by simpa using k.length_eq) fun i y e => k.item i y (by simpa using e)
theorem RK.tup {a : Addr} {o : Obj} {vs : List Value} {n : Nat} {ds : List PyData} (h1 : h.get? a = some o) (h2 : o.cls = .type "tuple") (h3 : o.data = .seq vs.toArray n) (b : RKs P w h vs ds) : RK P w h (.ref a) (.tuple ds) ∧ ∃ bs, a ∉ bs ∧ ReprAllK P w bs h (PyData.depthAll ds) vs (PyData.shownAll ds) := by
  obtain ⟨bs, as, r, m, k⟩ := b
  have rr : Reads h (.ref a) (.tuple ds) _ := .tuple h1 h2 h3 r
  have na : a ∉ bs := not_mem_of_deeper rr (by simp only [PyData.depth]; omega) m
  refine ⟨⟨a :: bs, _, rr, .cons rr (by simp only [PyData.depth]; omega) m, ?_⟩, bs, na, k⟩
  simp only [PyData.depth, PyData.shown]
  exact ReprK.tuple h1 h2 h3 na k
theorem RK.dct {a : Addr} {o : Obj} {es : Array DictEntry} {n : Nat} {kvs : List (PyData × PyData)} (h1 : h.get? a = some o) (h2 : o.cls = .type "dict") (h3 : o.data = .dict es n) (hs : (a == sysModules) = false) (bk : RKs P w h (es.toList.map (·.key)) (kvs.map (·.1))) (bv : RKs P w h (es.toList.map (·.val)) (kvs.map (·.2))) : RK P w h (.ref a) (.dict kvs) := by
  obtain ⟨b1, a1, r1, m1, k1⟩ := bk
  obtain ⟨b2, a2, r2, m2, k2⟩ := bv
  have rr : Reads h (.ref a) (.dict kvs) _ := .dict h1 h2 h3 r1 r2
  have m : ReadAtMost h (PyData.depthKv kvs) (b1 ++ b2) := (m1.mono (PyData.depthAll_keys_le kvs)).append (m2.mono (PyData.depthAll_vals_le kvs))
  have na : a ∉ b1 ++ b2 := not_mem_of_deeper rr (by simp only [PyData.depth]; omega) m
  refine ⟨a :: (b1 ++ b2), _, rr, .cons rr (by simp only [PyData.depth]; omega) m, ?_⟩
  simp only [PyData.depth, PyData.shown, PyData.shownKv_eq]
  exact ReprK.dict h1 h2 h3 hs na (.of_two es.toList _ _ (k1.more_le (fun b z => List.mem_append_left _ z) (PyData.depthAll_keys_le kvs)) (k2.more_le (fun b z => List.mem_append_right _ z) (PyData.depthAll_vals_le kvs)))
theorem key_rk {k : Key} {v : Value} (e : keyIs k v = true) (hs : (Key.py k).showable = true) (hz : (Key.py k).shown.length ≤ sizeLine) : RK P w h v (Key.py k) := by
  rcases keyIs_shape e with ⟨i, t, rfl, rfl⟩ | ⟨x, t, rfl, rfl⟩
  · exact .int i t hs
  · exact .str x t hz
/-- a dict's entries -/
theorem ent_rk : ∀ {es : List DictEntry} {rs : List (Key × Value)}, Pairs (mixKind P w) es rs → (∀ k ∈ rs.map (·.1), (Key.py k).showable = true ∧ (Key.py k).shown.length ≤ sizeLine) → RKs P w h (es.map (·.key)) (rs.map fun kv => Key.py kv.1) ∧ es.map (·.val) = rs.map (·.2)
  | _, _, .nil, _ => ⟨.nil, rfl⟩
  | _, _, .cons (e := e) (kv := kv) q1 q2 q3, hk => by
    obtain ⟨i1, i2⟩ := ent_rk q3 fun k z => hk k (List.mem_cons_of_mem _ z)
    have z := hk kv.1 (by simp)
    exact ⟨.cons (key_rk q1 z.1 z.2) i1, by simp [q2, i2]⟩
end
theorem shown_le_list {t : Str} {ds : List PyData} (h : t ∈ PyData.shownAll ds) (hz : (PyData.list ds).shown.length ≤ sizeLine) : t.length ≤ sizeLine := Nat.le_trans (listText_mem_le h) (by simpa only [PyData.shown] using hz)
theorem shown_le_tup {t : Str} {ds : List PyData} (h : t ∈ PyData.shownAll ds) (hz : (PyData.tuple ds).shown.length ≤ sizeLine) : t.length ≤ sizeLine := Nat.le_trans (tupleText_mem_le h) (by simpa only [PyData.shown] using hz)
theorem shAll_mem : ∀ {ds : List PyData} {d : PyData}, PyData.showableAll ds = true → d ∈ ds → d.showable = true
  | [], _, _, h => nomatch h
  | e :: ds, d, hs, h => by
    have hs' : e.showable = true ∧ PyData.showableAll ds = true := by simpa [PyData.showableAll] using hs
    rcases List.mem_cons.mp h with rfl | h
    · exact hs'.1
    · exact shAll_mem hs'.2 h
theorem shown_mem : ∀ {ds : List PyData} {d : PyData}, d ∈ ds → d.shown ∈ PyData.shownAll ds
  | [], _, h => nomatch h
  | e :: ds, d, h => by
    simp only [PyData.shownAll]
    rcases List.mem_cons.mp h with rfl | h
    · exact List.mem_cons_self ..
    · exact List.mem_cons_of_mem _ (shown_mem h)
theorem rpys_len : ∀ l : List D, (D.rpys l).length = l.length
  | [] => rfl
  | _ :: l => by simp [D.rpys, rpys_len l]
theorem kv_split {kvs : List (Key × V)} {rs : List (Key × Value)} (h : KV kvs rs) : rs.map (·.1) = kvs.map (·.1) ∧ Vals (kvs.map (·.2)) (rs.map (·.2)) := by
  unfold KV at h
  induction h with
  | nil => exact ⟨rfl, .nil⟩
  | cons p q ih => exact ⟨by simp [ih.1, p.1], .cons p.2 ih.2⟩
section
variable {P : Program} {w : World} {h : Heap} {K : KM} {F H : Hp}
mutual
theorem rk_of (hok : HOk P w H h) (sm : Same F H) : ∀ (d : D) (v : V) (u : Value), d.shw = true → d.rpy.showable = true → d.rpy.shown.length ≤ sizeLine → Rp K F d v → RelV v u → RK P w h u d.rpy
  | .non, v, u, _, _, _, q, r => by cases (show v = V.non from q); cases (show u = Value.none from r); exact .non
  | .bl b, v, u, _, _, _, q, r => by cases (show v = V.bl b from q); cases (show u = Value.bool b from r); exact .bl b
  | .int i, v, u, _, hs, _, q, r => by cases (show v = V.int i from q); obtain ⟨t, rfl⟩ := (show ∃ t, u = Value.int i t from r); exact .int i t hs
  | .str x, v, u, _, _, hz, q, r => by cases (show v = V.str x from q); obtain ⟨t, rfl⟩ := (show ∃ t, u = Value.str x t from r); exact .str x t hz
  | .lst l, v, u, p, hs, hz, q, r => by
    obtain ⟨a, vs, rfl, h1, h2⟩ := q
    cases (show u = Value.ref a from r)
    have ok : ObjOk P w H h a (.lst vs) := hok a _ (sm _ _ h1)
    obtain ⟨_, its, n, rv, e⟩ := ok
    exact (RK.list e rfl rfl (rk_all hok sm l vs its p (by simpa [D.rpy, PyData.showable] using hs) (fun t z => shown_le_list z hz) h2 rv)).1
  | .tup l, v, u, p, hs, hz, q, r => by
    obtain ⟨a, vs, rfl, h1, h2⟩ := q
    cases (show u = Value.ref a from r)
    have ok : ObjOk P w H h a (.tup vs) := hok a _ (sm _ _ h1)
    obtain ⟨_, its, rv, e⟩ := ok
    obtain ⟨o, e1, e2, n, e3⟩ := e
    exact (RK.tup e1 e2 e3 (rk_all hok sm l vs its p (by simpa [D.rpy, PyData.showable] using hs) (fun t z => shown_le_tup z hz) h2 rv)).1
  | .dct ks l, v, u, p, hs, hz, q, r => by
    obtain ⟨a, od, kvs, rfl, h1, h3, h2⟩ := q
    cases (show u = Value.ref a from r)
    have ok : ObjOk P w H h a (.frz od (.dK kvs)) := hok a _ (sm _ _ h1)
    obtain ⟨_, _, hsys, rs, kv, o, es, ep, e1, e2, e3, _, e4, _⟩ := ok
    have hl : ks.length = l.length ∧ D.shws l = true := by simpa [D.shw] using p
    obtain ⟨k1, k2⟩ := kv_split kv
    have m1 : ((ks.map Key.py).zip (D.rpys l)).map (·.1) = ks.map Key.py := by rw [List.map_fst_zip]; rw [List.length_map, rpys_len, hl.1]; exact Nat.le_refl _
    have m2 : ((ks.map Key.py).zip (D.rpys l)).map (·.2) = D.rpys l := by rw [List.map_snd_zip]; rw [List.length_map, rpys_len, hl.1]; exact Nat.le_refl _
    have hz' : (dictText (PyData.shownKv ((ks.map Key.py).zip (D.rpys l)))).length ≤ sizeLine := by simpa only [D.rpy, PyData.shown] using hz
    obtain ⟨s1, s2⟩ := PyData.showableKv_split ((ks.map Key.py).zip (D.rpys l)) (by simpa [D.rpy, PyData.showable] using hs)
    rw [m1] at s1
    rw [m2] at s2
    have hkey : ∀ k ∈ rs.map (·.1), (Key.py k).showable = true ∧ (Key.py k).shown.length ≤ sizeLine := fun k z => by
      rw [k1, h3] at z
      refine ⟨shAll_mem s1 (List.mem_map_of_mem z), ?_⟩
      obtain ⟨t, ht, hle⟩ := PyData.shownKv_key_le ((ks.map Key.py).zip (D.rpys l)) (Key.py k).shown (by rw [m1]; exact shown_mem (List.mem_map_of_mem z))
      exact Nat.le_trans hle (Nat.le_trans (dictText_mem_le ht) hz')
    obtain ⟨j1, j2⟩ := ent_rk (h := h) e4 hkey
    have e5 : rs.map (fun kv => Key.py kv.1) = ks.map Key.py := by rw [← h3, ← k1, List.map_map]; rfl
    rw [e5] at j1
    refine RK.dct e1 e2.1 e3 hsys (by rw [m1]; exact j1) ?_
    rw [m2, j2]
    refine rk_all hok sm l _ _ hl.2 s2 (fun t z => ?_) h2 k2
    obtain ⟨t', ht, hle⟩ := PyData.shownKv_val_le ((ks.map Key.py).zip (D.rpys l)) t (by rw [m2]; exact z)
    exact Nat.le_trans hle (Nat.le_trans (dictText_mem_le ht) hz')
  | .dcT _ _, _, _, p, _, _, _, _ => by cases p
  | .obj _ _, _, _, p, _, _, _, _ => by cases p
  | .scr _, _, _, p, _, _, _, _ => by cases p
theorem rk_all (hok : HOk P w H h) (sm : Same F H) : ∀ (l : List D) (vs : List V) (us : List Value), D.shws l = true → PyData.showableAll (D.rpys l) = true → (∀ t ∈ PyData.shownAll (D.rpys l), t.length ≤ sizeLine) → RpL K F l vs → Vals vs us → RKs P w h us (D.rpys l)
  | [], vs, us, _, _, _, q, r => by
    cases (show vs = [] from q)
    cases r
    exact .nil
  | d :: l, vs, us, p, hs, hz, q, r => by
    obtain ⟨v, vr, rfl, q1, q2⟩ := q
    have p' : d.shw = true ∧ D.shws l = true := by simpa [D.shws] using p
    have hs' : d.rpy.showable = true ∧ PyData.showableAll (D.rpys l) = true := by simpa [D.rpys, PyData.showableAll] using hs
    cases r with
    | cons r1 r2 =>
      exact .cons (rk_of hok sm d v _ p'.1 hs'.1 (hz _ (by simp [D.rpys, PyData.shownAll])) q1 r1) (rk_all hok sm l vr _ p'.2 hs'.2 (fun t z => hz t (by simp [D.rpys, PyData.shownAll, z])) q2 r2)
end
end
section
variable {X : Cx}
/-- repr(list or tuple), where no other repr runs -/
theorem call_reprL {k : Nat} (hg : X.A.guards = some []) (hr : Room k X.A) : CallR X (.builtin "repr") (fun xs H Q => ∃ (K : KM) (F : Hp) (d : D) (v : V), xs = [v] ∧ d.isRef = true ∧ d.shw = true ∧ d.rpy.showable = true ∧ d.rpy.depth < 20 ∧ d.rpy.shown.length ≤ sizeLine ∧ Same F H ∧ Ct K F H d v ∧ Q (.str d.rpy.shown) H) := by
  intro pins s σ H xs us Q I r ⟨K, F, d, v, ex, hd, p, hs, hdp, hz, sm, hc, q⟩
  subst ex
  obtain ⟨u, rfl, ru⟩ : ∃ u, us = [u] ∧ RelV v u := by
    cases r with
    | cons a b => cases b; exact ⟨_, rfl, a⟩
  have hun := hr.un
  have fin : ∀ h' u tk, (∀ b o, s.heap.get? b = some o → h'.get? b = some o) → EP X pins σ Q (.str d.rpy.shown u) { s with heap := h', toks := tk } := fun h' u tk kp => ⟨.str d.rpy.shown, H, I.kept (t' := tk) kp, ⟨_, rfl⟩, q⟩
  cases d with
  | lst l =>
    obtain ⟨a, vs, rfl, h1, h2⟩ := hc.lst sm
    cases (show u = Value.ref a from ru)
    have ok : ObjOk X.prog X.w H s.heap a (.lst vs) := I.hok a _ h1
    obtain ⟨_, its, n, rv, e⟩ := ok
    have ks := rk_all (K := K) (F := F) I.hok sm l vs its p (by simpa [D.rpy, PyData.showable] using hs) (fun t z => shown_le_list z hz) h2 rv
    obtain ⟨_, bs, na, kk⟩ := RK.list e rfl rfl ks
    have hz' : (listText (PyData.shownAll (D.rpys l))).length ≤ sizeLine := by simpa only [D.rpy, PyData.shown] using hz
    have hu : X.A.units + 1 + (PyData.depthAll (D.rpys l) + 1) < cLine := by
      have : PyData.depthAll (D.rpys l) + 1 < 20 := by simpa only [D.rpy, PyData.depth, Nat.add_comm] using hdp
      omega
    refine call_repr_slot (by omega) (T := "list") ⟨_, e, rfl⟩ PySem.F.slot_list_repr.toG ?_
    cases its with
    | nil =>
      have kl := kk.length_eq
      refine call_list_repr_empty ⟨_, e, rfl⟩ e rfl ⟨_, _, rfl, ?_⟩
      have : D.rpys l = [] := by
        cases hh : D.rpys l with
        | nil => rfl
        | cons _ _ => rw [hh] at kl; simp [PyData.shownAll] at kl
      have z := fin s.heap s.toks (s.toks + 1) fun _ _ e => e
      simp only [D.rpy, this, PyData.shown, PyData.shownAll, listText_nil] at z
      exact z
    | cons x r =>
      refine call_list_reprK e rfl rfl na (by simpa using kk.length_eq) (fun i y e => kk.item i y (by simpa using e)) hg (fun b _ => Clear.nil b) hu (fun _ _ e => e) (fun h' u tk kp => ⟨_, _, rfl, ?_⟩) hz'
      have z := fin h' u tk kp
      simp only [D.rpy, PyData.shown] at z
      exact z
  | tup l =>
    obtain ⟨a, vs, rfl, h1, h2⟩ := hc.tup sm
    cases (show u = Value.ref a from ru)
    have ok : ObjOk X.prog X.w H s.heap a (.tup vs) := I.hok a _ h1
    obtain ⟨_, its, rv, e⟩ := ok
    obtain ⟨o, e1, e2, n, e3⟩ := e
    have ks := rk_all (K := K) (F := F) I.hok sm l vs its p (by simpa [D.rpy, PyData.showable] using hs) (fun t z => shown_le_tup z hz) h2 rv
    obtain ⟨_, bs, na, kk⟩ := RK.tup e1 e2 e3 ks
    have hz' : (tupleText (PyData.shownAll (D.rpys l))).length ≤ sizeLine := by simpa only [D.rpy, PyData.shown] using hz
    have hu : X.A.units + 1 + (PyData.depthAll (D.rpys l) + 1) < cLine := by
      have : PyData.depthAll (D.rpys l) + 1 < 20 := by simpa only [D.rpy, PyData.depth, Nat.add_comm] using hdp
      omega
    refine call_repr_slot (by omega) (T := "tuple") ⟨_, e1, e2⟩ PySem.F.slot_tuple_repr ?_
    refine call_tuple_reprK e1 e2 e3 na kk hg (fun b _ => Clear.nil b) hu (fun _ _ e => e) (fun h' u tk kp => ⟨_, _, rfl, ?_⟩) hz'
    have z := fin h' u tk kp
    simp only [D.rpy, PyData.shown] at z
    exact z
  | _ => cases hd
end
end PV

/-! PvX5: defs that run where no repr runs; repr. -/
namespace PV
open PySem L2 PyProof.Rows
/-- a def's promise, where no repr runs around it -/
structure FnG (P : Program) (w : World) (K : PySem.W.Frag) (mg : Str → Option Value) (base : Heap) (k : Nat) (f : Addr) (fd : FuncData) (ps : List Str) (sp : Sp) : Prop where
  len : ∀ vs H Q E, sp vs H Q E → vs.length = ps.length
  run : ∀ (A : Around) (outer : List Env) (s : Shared) (H : Hp) (args : Args) (us : List Value) (vs : List V) (Q : VK) (E : XK), Room k A → A.guards = some [] → Env0 P w K mg base A outer s H → BindsTo s fd args (ps.zip us) → Vals vs us → sp vs H Q E →
    codeAny (model P w) A (.call (.ref f) args) (CR CX0 outer P w H s Q E) s
section
variable {P : Program} {w : World} {K : PySem.W.Frag} {mg : Str → Option Value} {base : Heap}
theorem FnG.imp {k : Nat} {f : Addr} {fd : FuncData} {ps : List Str} {sp sp' : Sp} (F : FnG P w K mg base k f fd ps sp) (h : ∀ vs H Q E, sp' vs H Q E → sp vs H Q E) : FnG P w K mg base k f fd ps sp' :=
  ⟨fun vs H Q E q => F.len vs H Q E (h _ _ _ _ q), fun A outer s H args us vs Q E hr hg he hb hv hs => F.run A outer s H args us vs Q E hr hg he hb hv (h _ _ _ _ hs)⟩
theorem fn_okG {x qual : Str} {st : Stmt} {f : Addr} {fd : FuncData} {N ps : List Str} {k : Nat} {fn : Fn} {cf : Nat → List Sl → CRes} (F : Fun K x qual st f fd) (S : FnScope N ps (defScope st)) (hps : ps.length = fn.np) (hn : N.length = fn.nn) (hnp : fn.np ≤ fn.nn)
    (hb : ∀ (B : Bs) (cdv : Value) (A : Around) (outer : List Env) (s : Shared) (H : Hp) (E : XK), B.np = fn.np → Room k (A.deeper (PyProof.Rows.envOfC qual (defScope st) s.heap.objs.size f cdv)) → A.guards = some [] → SSs B (Xf P w K mg base N qual (defScope st) f cdv A outer s H E) (defBody st) (evSs B.np cf fn.body)) :
    FnG P w K mg base (k + 1) f fd ps (spF ⟨K, mg⟩ fn.np (runF cf fn)) := by
  obtain ⟨oc, od, kV, doc, pm, an, cdv, ct, osl, rfl, lk, hcd⟩ := F.ex
  have len : ∀ vs H Q E, spF ⟨K, mg⟩ fn.np (runF cf fn) vs H Q E → vs.length = ps.length := fun vs H Q E h => by rw [h.1, hps]
  refine ⟨len, fun A outer s H args us vs Q E hr hgd e0 hbd rv hsp => ?_⟩
  have kin : K.In s.heap := e0.mod.kin.keeps fun b o z => (e0.bs b o z).1
  refine codeAny_call_function hr.depth (kin _ _ lk) rfl S.co S.gen rfl (PySem.W.codeRec_of kin hcd) (hbd _ _ _ _ (wpAny_newFunctionEnv_cells S.kind (fun ⟨n, v⟩ hy => ?_) fun env he s1 x => ?_))
  · rcases S.par n (List.of_mem_zip hy).1 with z | z
    · exact .inl z
    · exact .inr ⟨z, PySem.W.cellsFrom_some _ _ _ (.inl z)⟩
  · subst he
    refine ⟨(e0.mod.nolimit.keeps fun b o z => (e0.bs b o z).1).keeps x.toInCall.keep, codeAny_func ?_⟩
    have I : Inv (cxOf CX0 P w K mg base N qual (defScope st) f cdv A outer s H E) [] (start N vs) H s1 := inv_start S hr.hd e0 (len _ _ _ _ hsp) rv x
    have body := fn_body hn hnp (fun B hB => hb B cdv A outer s H E hB (hr.deeper _) hgd) hsp
    refine wpAny_mono ((pss_gss (X := Xf P w K mg base N qual (defScope st) f cdv A outer s H E)).nox.run [] s1 (start N vs) H _ I body) (fun fl s' hs => ?_) fun e s' hs => hs
    cases fl with
    | ret u =>
      obtain ⟨v, σ', H', J, rv', q⟩ := hs
      exact ⟨v, H', J.os, J.bare, J.base, J.hok, rv', q⟩
    | next =>
      obtain ⟨σ', H', J, q⟩ := hs
      exact ⟨V.non, H', J.os, J.bare, J.base, J.hok, rfl, q⟩
    | brk => obtain ⟨_, _, _, z⟩ := hs; exact z.elim
    | cont => obtain ⟨_, _, _, z⟩ := hs; exact z.elim
end
/-- a def of the text that can be called, where no repr runs -/
structure CalleeG (P : Program) (w : World) (K : PySem.W.Frag) (mg : Str → Option Value) (base : Heap) (k : Nat) (x : Str) (n : Nat) (res : List Sl → CRes) : Prop where
  ex : ∃ (f : Addr) (fd : FuncData) (ps : List Str), mg x = some (.ref f) ∧ PySem.W.keepIn K (.ref f) = true ∧ Binds K fd ps [] ∧ FnG P w K mg base k f fd ps (spF ⟨K, mg⟩ n res)
section
variable {B : Bs} {X : Cx} {e a : Expr} {es : List Expr} {pos p : Pos} {np : Nat} {cf : Nat → List Sl → CRes} {ca : C} {x : Str}
theorem pe_callG {k : Nat} {f : Addr} {fd : FuncData} {ps : List Str} {sp : Sp} {E : XK} {t : TA} (F : FnG X.prog X.w X.K X.mg X.base k f fd ps sp) (hr : Room k X.A) (hgd : X.A.guards = some []) (hg : Gl X x) (hm : X.mg x = some (.ref f)) (hk : PySem.W.keepIn X.K (.ref f) = true) (hb : Binds X.K fd ps []) (hx : Passes CX0 X E)
    (ha : PA X (e :: es) t) (hdb : (x == ("__debug__" : Str)) = false) (he : starEach (e :: es) X.env = (false, eval e X.env) :: starEach es X.env) (hpl : (backTo pos (starEach es X.env)).any (·.1) = false) :
    PE X (.Call (.Name x p) (e :: es) [] pos) (tCall sp [] E t) := by
  refine ⟨fun pins s σ H Q I h => ?_⟩
  refine wpAny_Call_Name_kw (ld_glob I hg hm ?_ hdb)
  refine PySem.W.callWith_K (h₀ := X.base) I.ok.mod.kin hk (thn (ha.run pos pins s σ H _ I h) fun us s1 ⟨vs, H1, I1, rv, q⟩ => ⟨I1.kIn, ?_⟩) he hpl
  have q' : sp vs H1 Q E := by rw [← List.append_nil vs]; exact q
  have hl : (us ++ []).length = ps.length := by rw [List.append_nil, ← rv.length]; exact F.len _ _ _ _ q'
  have b1 := hb s1 us I1.kIn hl
  rw [List.append_nil] at b1
  refine wpAny_call (codeAny_mono (F.run X.A X.stack s1 H1 ⟨us, []⟩ us vs Q E hr hgd I1.env0 b1 rv q') fun r s' hq => ?_)
  cases r with
  | error z => exact hx pins σ H1 s1 z s' I1 hq
  | ok fl =>
    cases fl with
    | ret u => exact I1.after hq
    | next => exact hq.elim
    | brk => exact hq.elim
    | cont => exact hq.elim
theorem se_callG {k n f : Nat} (C : CalleeG X.prog X.w X.K X.mg X.base k x n (cf f)) (hrm : Room k X.A) (hgd : X.A.guards = some []) (hg : Gl X x) (hdb : (x == ("__debug__" : Str)) = false) (he : starEach (e :: es) X.env = (false, eval e X.env) :: starEach es X.env) (hpl : (backTo pos (starEach es X.env)).any (·.1) = false)
    (hlen : (e :: es).length = n) (ha : SAr B X (e :: es) (evAs np cf ca)) (hal : ∀ ρ l ρ', evAs np cf ca ρ = .ok l ρ' → l.length = n) : SE B X (.Call (.Name x p) (e :: es) [] pos) (evE np cf (.callG f ca)) := by
  intro F H ρ σ Q hr ⟨r, ρ', hm, kk⟩
  obtain ⟨fa, fd, psn, hmg, hkp, hbd, hok⟩ := C.ex
  obtain ⟨as, ρ1, h1, m1⟩ := bind_ok hm
  refine ge_of (pe_callG hok hrm hgd hg hmg hkp hbd pass0 pa_ga hdb he hpl) (ha F H ρ σ _ hr ⟨as, ρ1, h1, fun vs F1 H1 P q => ?_⟩)
  split at m1
  · rename_i hnd
    split at m1
    · cases m1
    · rename_i sl hsl
      unfold callR at m1
      split at m1
      · cases m1
      · rename_i r0 ps' hres
        split at m1
        · cases m1
        · rename_i ρ2 hback
          refine ⟨by rw [List.append_nil, q.length, hal ρ as ρ1 h1], F1, sl, r0, ps', ?_, hres, fun v F' H' c => ?_⟩
          · rw [List.append_nil]
            exact ArgOk.of P.rel q hsl hnd
          · rw [List.append_nil] at c
            have PC := Post.call P.rel q hsl hnd c hback
            obtain ⟨g1, g2⟩ := c.rv P.rel PC
            cases r0 with
            | bor _ => exact c.val.elim
            | fz d => cases m1; exact kk v F' H' (P.trans PC) g1 (g2.back P)
            | ow d => cases m1; exact kk v F' H' (P.trans PC) g1 (g2.back P)
  · cases m1
theorem reprD_ok {d r : D} (h : reprD d = some r) : d.isRef = true ∧ d.shw = true ∧ d.rpy.showable = true ∧ d.rpy.depth < 20 ∧ d.rpy.shown.length ≤ maxLen ∧ r = .str d.rpy.shown := by
  unfold reprD at h
  split at h
  · rename_i z
    cases h
    have z' : (((d.isRef = true ∧ d.shw = true) ∧ d.rpy.showable = true) ∧ d.rpy.depth < 20) ∧ d.rpy.shown.length ≤ maxLen := by simpa [Bool.and_eq_true] using z
    exact ⟨z'.1.1.1.1, z'.1.1.1.2, z'.1.1.2, z'.1.2, z'.2, rfl⟩
  · cases h
theorem se_repr {k : Nat} (hrm : Room k X.A) (hgd : X.A.guards = some []) (hg : Gl X "repr") (hm : X.mg "repr" = none) (hs : starEach [a] X.env = (false, eval a X.env) :: starEach [] X.env) (ha : SE B X a (evE np cf ca)) : SE B X (.Call (.Name "repr" p) [a] [] pos) (evE np cf (.repr ca)) := by
  intro F H ρ σ Q hr ⟨r, ρ', hm', kk⟩
  obtain ⟨z, ρ1, h1, m1⟩ := bind_ok hm'
  obtain ⟨d', ρ2, h2, m2⟩ := bind_ok m1
  obtain ⟨ho, e0⟩ := ofO_ok h2
  subst e0
  cases m2
  obtain ⟨d, e1, e2⟩ := obind_some ho
  obtain ⟨i1, i2, i3, i4, i5, rfl⟩ := reprD_ok e2
  refine ge_of (pe_callB (call_reprL hgd hrm) hg hm (by decide +kernel) (pa_cons pe_ge pa_nil hs) (by decide) (by decide) hs rfl) ?_
  refine ha F H ρ σ _ hr ⟨z, _, h1, fun v F1 H1 P q f => ?_⟩
  exact ⟨km X, F1, d, v, rfl, i1, i2, i3, i4, maxLen_le i5, P.rel.same, der_ct P.rel q e1, kk _ F1 H1 P rfl trivial⟩
end
end PV

/-! PvX6: the law's call at the top, where no repr runs. -/
namespace PV
open PySem L2 PyProof.Rows
theorem lawG_core {P : Program} {w : World} {K : PySem.W.Frag} {mg mb : Str → Option Value} {k : Nat} {fa a : Addr} {fd : FuncData} {x : Str} {sp : Sp} {t : Shared} {us : List Value}
    (kin : K.In t.heap) (gns : t.heap.Ns mainGlobals mg) (bns : t.heap.Ns builtinsNs mb) (bb : ∀ x : Str, x ≠ "__name__" → mb x = bootBuiltins x) (nl : t.heap.NoLimit) (ng : t.gens = #[])
    (hobj : t.heap.get? a = some { cls := .type "list", data := .seq us.toArray }) (rm : Room k callerA)
    (F : ∀ base : Heap, FnG P w K mg base k fa fd [x] sp) (bnd : ∀ (s : Shared) (u : Value), BindsTo s fd ⟨[u], []⟩ [(x, u)])
    (H : Hp) (only : Only H) (spH : sp [.ref a] H (fun v _ => v = .bl true) fun _ _ _ => False) (hok : HOk P w H t.heap) (hA : ∀ b, H b ≠ none → b = a) (hK : H a ≠ none → K.lookup a = none) :
    codeAny (model P w) callerA (.call (.ref fa) ⟨[.ref a], []⟩) (fun r s' => r = .ok (.ret (.bool true)) ∧ OldK t.heap s'.heap ∧ s'.os = t.os ∧ AllBare s'.gens) t := by
  have keep : ∀ {b : Addr} {o : Obj}, t.heap.get? b = some o → H b = none → (hidT t.heap H).get? b = some o := fun e n => hidT_get e n
  have ns' : ∀ {b : Addr} {m : Str → Option Value}, t.heap.Ns b m → (hidT t.heap H).Ns b m := fun {b m} ⟨o, es, ep, e, d, r⟩ => by
    refine ⟨o, es, ep, keep e ?_, d, r⟩
    cases z : H b with
    | none => rfl
    | some u =>
      obtain rfl := hA b (by rw [z]; exact fun y => nomatch y)
      rw [hobj] at e
      cases e
      cases d
  have kin' : K.In (hidT t.heap H) := fun b o e => by
    refine keep (kin b o e) ?_
    cases z : H b with
    | none => rfl
    | some u =>
      obtain rfl := hA b (by rw [z]; exact fun y => nomatch y)
      rw [hK (by rw [z]; exact fun y => nomatch y)] at e
      cases e
  have md : Mod K mg (hidT t.heap H) := ⟨kin', ns' gns, ⟨mb, ns' bns, bb⟩, let ⟨mc, h1, h2⟩ := nl; ⟨mc, ns' h1, h2⟩⟩
  have en : Env0 P w K mg (hidT t.heap H) callerA [] t H := ⟨rfl, md, fun b o e => of_hidT e, Nat.le_of_eq (hidT_size _ _), trivial, (fun b hb => nomatch (show b ∈ ([] : List Addr) from hb)), hok, .of_eq ng⟩
  refine codeAny_mono ((F _).run callerA [] t H ⟨[.ref a], []⟩ [.ref a] [.ref a] _ _ rm rfl en (bnd t (.ref a)) (.cons rfl .nil) spH) fun r s' h => ?_
  cases r with
  | error e => exact h.elim
  | ok fl =>
    cases fl with
    | next => exact h.elim
    | brk => exact h.elim
    | cont => exact h.elim
    | ret u =>
      obtain ⟨v, H', e1, e2, un, hok', rv, q⟩ := h
      cases (show v = V.bl true from q)
      cases (show u = Value.bool true from rv)
      refine ⟨rfl, OldK.of_keep fun b o e => ?_, e1, e2⟩
      cases z : H b with
      | none => exact un.keep b o e z (fun y => nomatch (show b ∈ ([] : List Addr) from y)) (fun y => nomatch y)
      | some u =>
        rcases only b with y | ⟨ob, xs, y⟩
        · rw [z] at y; cases y
        · obtain ⟨f1, _⟩ := hok b _ y
          obtain ⟨f2, _⟩ := hok' b _ (un.frzs b ob _ y)
          rw [e] at f1
          cases f1
          exact f2
theorem lawG_call {P : Program} {w : World} {K : PySem.W.Frag} {mg mb : Str → Option Value} {k : Nat} {fa a : Addr} {fd : FuncData} {x : Str} {sp : Sp} {t : Shared} {us : List Value} {ns : List Int}
    (kin : K.In t.heap) (gns : t.heap.Ns mainGlobals mg) (bns : t.heap.Ns builtinsNs mb) (bb : ∀ x : Str, x ≠ "__name__" → mb x = bootBuiltins x) (nl : t.heap.NoLimit) (ng : t.gens = #[])
    (hobj : t.heap.get? a = some { cls := .type "list", data := .seq us.toArray }) (hi : IntsAre us ns) (hl : ns.length ≤ sizeLine) (rm : Room k callerA)
    (F : ∀ base : Heap, FnG P w K mg base k fa fd [x] sp) (bnd : ∀ (s : Shared) (u : Value), BindsTo s fd ⟨[u], []⟩ [(x, u)])
    (hsp : ∀ H : Hp, Only H → SqL K H a (ns.map V.int) → sp [.ref a] H (fun v _ => v = .bl true) fun _ _ _ => False) :
    codeAny (model P w) callerA (.call (.ref fa) ⟨[.ref a], []⟩) (fun r s' => r = .ok (.ret (.bool true)) ∧ OldK t.heap s'.heap ∧ s'.os = t.os ∧ AllBare s'.gens) t := by
  have rv := vals_ints hi
  have lenV := hi.length
  cases hk : K.lookup a with
  | some o =>
    have e := kin a o hk
    rw [hobj] at e
    cases e
    have only : Only (fun _ => none) := fun _ => .inl rfl
    exact lawG_core kin gns bns bb nl ng hobj rm F bnd (fun _ => none) only (hsp _ only (.inr ⟨_, us.toArray, _, hk, rfl, rfl, rfl, by rw [List.size_toArray, lenV]; exact hl, by simpa using rv⟩)) (fun b u z => nomatch (show (none : Option HO) = some u from z)) (fun b z => absurd rfl z) fun z => absurd rfl z
  | none =>
    have only : Only (fun b => if b = a then some (.frz { cls := .type "list", data := .seq us.toArray } (.lst (ns.map V.int))) else none) := fun b => by
      by_cases hb : b = a
      · exact .inr ⟨_, _, if_pos hb⟩
      · exact .inl (if_neg hb)
    refine lawG_core kin gns bns bb nl ng hobj rm F bnd _ only (hsp _ only (.inl (.inr ⟨{ cls := .type "list", data := .seq us.toArray }, if_pos rfl⟩))) (fun b u z => ?_) (fun b z => ?_) fun _ => hk
    · by_cases hb : b = a
      · have y := (if_pos hb).symm.trans z
        cases y
        subst hb
        exact ⟨hobj, by rw [List.length_map]; exact hl, us, _, rv, hobj⟩
      · have y := (if_neg hb).symm.trans z
        cases y
    · by_cases hb : b = a
      · exact hb
      · exact absurd (if_neg hb) z
theorem walkG {l : PySem.W.OpenLaw} {n k : Nat} {q : Program} {loose : List Str} {XP : (Str → Option Value) → Heap → Prop} {YP : World → Heap → Prop} {d : DefRec} {K : Params → PySem.W.Frag} {sp : World → Sp} {x : Str}
    (hn : l.most = some n) (hn2 : n ≤ sizeLine) (hdf : d.params.defaults = []) (rm : Room k callerA) (hY : ∀ (w : World) (h : Heap), YP w h → (K w.params).In h)
    (F : ∀ (w : World) (mg : Str → Option Value) (fa : Addr) (h : Heap), (K w.params).In h → h.Ns mainGlobals mg → mg d.name = some (.ref fa) → ∃ fd : FuncData, (∀ (s : Shared) (u : Value), BindsTo s fd ⟨[u], []⟩ [(x, u)]) ∧ ∀ base : Heap, FnG l.prog w (K w.params) mg base k fa fd [x] (sp w))
    (hsp : ∀ (w : World) (H : Hp) (a : Addr) (ns : List Int), ns.length ≤ n → Only H → SqL (K w.params) H a (ns.map V.int) → sp w [.ref a] H (fun v _ => v = .bl true) fun _ _ _ => False) :
    PySem.W.WalkO q loose XP YP l.row.toRowW d [] (fun f vs => PySem.call f vs) := by
  refine Att.attach_call hn hdf fun w s₀ s₁ mg mb fa o pm cd doc a vs ns G Y ho hd hcd hmg hobj hints hlen hg => ?_
  obtain ⟨fd, hb, hF⟩ := F w mg fa _ (hY w _ Y) G.T.g hmg
  exact lawG_call (hY w _ Y) G.T.g G.T.b G.T.builtins G.T.nolimit hg hobj hints (Nat.le_trans hlen hn2) rm hF hb fun H hO hS => hsp w H a ns hlen hO hS
end PV

/-! PvX7: KeyError as a base; what is asked of the written part for own exceptions, as checks. -/
namespace PySem.F
theorem initF_KeyError : PV.InitF "KeyError" "KeyError.__init__" where
  init := .of (owner := "KeyError") (n := "__init__") (by rw [typeLookup_type, builtinLookup_eq_fast]; kernel_rfl) (by decide +kernel) (by decide +kernel) (by decide +kernel) (by first | exact .inl (by decide +kernel) | exact .inr (by decide +kernel)) (by rw [isSubtype_type]; kernel_rfl)
  entry := entryFor_alias (id' := "BaseException.__init__") (by rw [fastTable_eq_tree]; kernel_rfl) (by first | rfl | decide +kernel) (by decide +kernel) (by rw [fastTable_eq_tree]; kernel_rfl)
  kind := by kernel_rfl
  row := by kernel_rfl
  star := by decide +kernel
theorem store_KeyError : StoreFacts "KeyError" [.type "KeyError", .type "LookupError", .type "Exception", .type "BaseException", .type "object"] "object.__setattr__" "object" where
  mro := by kernel_rfl
  slot := .of (owner := "object") (n := "__setattr__") (by rw [typeLookup_type, builtinLookup_eq_fast]; kernel_rfl) (by decide +kernel) (by decide +kernel) (by decide +kernel) (by first | exact .inl (by decide +kernel) | exact .inr (by decide +kernel)) (by rw [isSubtype_type]; kernel_rfl)
  entry := entry_object_sa
  kind := by decide +kernel
  split := by decide +kernel
  hasOwner := by decide +kernel
  args := fun a b c => by unfold argsOk; kernel_rfl
  passes := fun self => by kernel_rfl
end PySem.F
namespace PySem.W
open PySem PyProof.Rows
theorem kxs_KeyError : KxsFacts "KeyError" "KeyError.__init__" := ⟨by show builtinType _ = _; rw [builtinType_eq_fast]; kernel_rfl, by first | kernel_rfl | rfl⟩
end PySem.W
namespace PV
open PySem L2 PySem.W
/-- the class facts of an own exception, as a check -/
def xclB (K : Frag) (C : Addr) : Bool := (clsIn K C).isSome && (hasDictIn K C && (decide (findIn K (.ref C) "__getattribute__" = some (some (.builtin "BaseException.__getattribute__"))) && (decide (findIn K (.ref C) "__getattr__" = some none) && (decide (subIn K (.ref C) (.type "BaseException") = some true) &&
  (decide (findIn K (.ref C) "__class__" = some (some (.builtin "object.__class__"))) && (decide (specialIn K (.builtin "object.__class__") "__get__" = some (some (.builtin "getset_descriptor.__get__"))) && (decide (takesIn K (.builtin "object.__class__") = some true) && decide (mroIn K C (.type "object") = some true))))))))
theorem xclB_ok {K : Frag} {C : Addr} (h : xclB K C = true) : XCl K C := by
  obtain ⟨h1, h⟩ := Bool.and_eq_true_iff.mp h
  obtain ⟨h2, h⟩ := Bool.and_eq_true_iff.mp h
  obtain ⟨h3, h⟩ := Bool.and_eq_true_iff.mp h
  obtain ⟨h4, h⟩ := Bool.and_eq_true_iff.mp h
  obtain ⟨h5, h⟩ := Bool.and_eq_true_iff.mp h
  obtain ⟨h6, h⟩ := Bool.and_eq_true_iff.mp h
  obtain ⟨h7, h⟩ := Bool.and_eq_true_iff.mp h
  obtain ⟨h8, h9⟩ := Bool.and_eq_true_iff.mp h
  exact ⟨h1, h2, of_decide_eq_true h3, of_decide_eq_true h4, of_decide_eq_true h5, of_decide_eq_true h6, of_decide_eq_true h7, of_decide_eq_true h8, of_decide_eq_true h9⟩
/-- the own exceptions of a program: each class's number, its address -/
def xallB (K : Frag) (cs : List (Nat × Addr)) : Bool := cs.all fun p => match clsT[p.1]? with
  | some ci => xclB K p.2 && ci.flds.all fun f => decide (findIn K (.ref p.2) f = some none)
  | none => false
def isxB (K : Frag) (cs : List (Nat × Addr)) (nm : Str) (cv : Value) : Bool := cs.all fun p => match clsT[p.1]? with
  | some ci => decide (kitOne K (.ref p.2) cv = some (ci.sup.contains nm))
  | none => false
/-- every own exception that the globals know stands in cs -/
def XKnown (mg : Str → Option Value) (cs : List (Nat × Addr)) : Prop := ∀ (c : Nat) (ci : Cls) (C : Addr), clsT[c]? = some ci → ci.exc = true → mg ci.name = some (.ref C) → (c, C) ∈ cs
theorem xknown_of {mg : Str → Option Value} {cs : List (Nat × Addr)} (h : ∀ p ∈ cs, ∀ ci, clsT[p.1]? = some ci → mg ci.name = some (.ref p.2)) (n : ∀ c, c < clsT.length → (∃ ci, clsT[c]? = some ci ∧ ci.exc = true ∧ ∀ C, mg ci.name ≠ some (.ref C)) ∨ (∃ ci, clsT[c]? = some ci ∧ ci.exc = false) ∨ ∃ C, (c, C) ∈ cs) : XKnown mg cs := by
  intro c ci C hc he hm
  rcases n c (List.getElem?_eq_some_iff.mp hc).1 with ⟨ci', h1, _, h3⟩ | ⟨ci', h1, h2⟩ | ⟨C', hC⟩
  · rw [hc] at h1; cases h1; exact absurd hm (h3 C)
  · rw [hc] at h1; cases h1; rw [he] at h2; cases h2
  · have z := h _ hC ci hc
    rw [hm] at z
    cases z
    exact hC
theorem isx_ok {K : Frag} {mg : Str → Option Value} {cs : List (Nat × Addr)} {nm : Str} {cv : Value} (hk : XKnown mg cs) (h1 : xallB K cs = true) (h2 : isxB K cs nm cv = true) : IsX K mg nm cv := by
  intro c ci C hc he hm
  have z1 := List.all_eq_true.mp h1 _ (hk c ci C hc he hm)
  have z2 := List.all_eq_true.mp h2 _ (hk c ci C hc he hm)
  dsimp only at z1 z2
  rw [hc] at z1 z2
  obtain ⟨a, _⟩ := Bool.and_eq_true_iff.mp z1
  exact ⟨xclB_ok a, of_decide_eq_true z2⟩
theorem fldx_ok {K : Frag} {mg : Str → Option Value} {cs : List (Nat × Addr)} (hk : XKnown mg cs) (h1 : xallB K cs = true) {c : Nat} {ci : Cls} {f : Str} (hc : clsT[c]? = some ci) (he : ci.exc = true) (hf : ci.flds = [f]) : ∀ C, mg ci.name = some (.ref C) → XCl K C ∧ findIn K (.ref C) f = some none := by
  intro C hm
  have z1 := List.all_eq_true.mp h1 _ (hk c ci C hc he hm)
  dsimp only at z1
  rw [hc] at z1
  obtain ⟨a, b⟩ := Bool.and_eq_true_iff.mp z1
  rw [hf] at b
  exact ⟨xclB_ok a, of_decide_eq_true (by simpa using b)⟩
theorem xic_mk {prog : Program} {K : Frag} {mg : Str → Option Value} {C : Addr} {f : Str} {B Bn newId initn initId : String} {bmB bmn : List Value} {fI cda cc : Addr} {nm qual sf x : Str} {params : Arguments} {scope : Scope} {dV kV doc pm ct oc ccl cl : Value} {an od cdd cld : Option Addr} {osl ccs csl : Array (Option Value)} {p0 p1 p2 p3 p4 p5 p6 p7 p8 p9 : Pos} {vs : Array Value} {file : Str} {tf : Tok} {ar : Arg}
    (FN : ExcBaseFacts Bn newId initn bmn) (hBn : bmB.contains (.type Bn) = true) (hAt : bmB.contains (.type "AttributeError") = false) (hNm : bmB.contains (.type "NameError") = false) (FB : InitF B initId) (KF : KxsFacts B initId) (SF : StoreFacts B bmB "object.__setattr__" "object") (iC : findIn K (.ref C) "__init__" = some (some (.ref fI))) (tI : typeIn K (.ref fI) = some (.type "function")) (qi : excInitIn K C bmB newId = true) (qo : excOver K C bmB = true) (sa : findIn K (.ref C) "__setattr__" = some (some (.builtin "object.__setattr__"))) (hd : hasDictIn K C = true) (hno : findIn K (.ref C) f = some none) (hB : subIn K (.ref C) (.type B) = some true) (hCC : mroIn K C (.ref C) = some true) (ho : nsIn K cStatics "thirdparty.any" = some none) (hsu : ks_superIn K C C "__init__" = some (some (.builtin initId))) (lk : K.lookup fI = some ⟨oc, od, .func (ksFn nm qual params (xiBody sf x f p0 p1 p2 p3 p4 p5 p6 p7 p8 p9) scope dV kV doc pm an (.ref cda) ct cc), osl⟩) (hcd : codeIn K (.ref cda) qual = true) (hpar : (params.posonlyargs ++ params.args).head? = some ar) (har : ar.arg = sf) (hcode : K.lookup cda = some ⟨ccl, cdd, .fields vs, ccs⟩) (hvs : vs[2]? = some (.str file tf)) (hfile : ((prog.main.file : Str) == file) = true) (hcell : K.lookup cc = some ⟨cl, cld, .cell (some (.ref C)), csl⟩) (hks : scope.names.lookup ("super" : Str) = some .globalImplicit) (hkc : scope.names.lookup ("__class__" : Str) = some .free) (hka : scope.names.lookup sf = some .local) (hkx : scope.names.lookup x = some .local) (hk : scope.kind = .function) (hnc : ∀ y ∈ scope.names, y.2 ≠ .cell) (hco : scope.isCoroutine = false) (hgen : scope.isGenerator = false) (hmg : mg "super" = none) (htop : (prog.main.scope.names.lookup ("super" : Str)).isSome = false) (hev : ∀ L, XiEq sf x f p0 p1 p2 p3 p4 p5 p6 p7 p8 p9 (ksEnv qual scope L fI (.ref cda) cc)) (hsx : sf ≠ x) (hdx : (x == ("__debug__" : Str)) = false) (hds : (sf == ("__debug__" : Str)) = false) (hbind : ∀ s e u, BindsTo s (ksFn nm qual params (xiBody sf x f p0 p1 p2 p3 p4 p5 p6 p7 p8 p9) scope dV kV doc pm an (.ref cda) ct cc) ⟨[.ref e, u], []⟩ [(sf, .ref e), (x, u)]) : XIc prog K mg C f :=
  ⟨⟨_, _, _, _, _, _, _, _, _, _, _, _, _, _, _, _, _, _, _, _, _, _, _, _, _, _, _, _, _, _, _, _, _, _, _, _, _, _, _, _, _, _, _, _, _, ⟨FN, hBn, hAt, hNm, FB, KF, SF, iC, tI, qi, qo, sa, hd, hno, hB, hCC, ho, hsu, lk, hcd, hpar, har, hcode, hvs, hfile, hcell, hks, hkc, hka, hkx, hk, hnc, hco, hgen, hmg, htop, hev, hsx, hdx, hds, hbind⟩⟩⟩
/-- an own exception can be made -/
structure XMk (P : Program) (K : Frag) (mg : Str → Option Value) (x : Str) (fl : List Str) : Prop where
  ex : ∃ C, mg x = some (.ref C) ∧ keepIn K (.ref C) = true ∧ ((fl = [] ∧ XPc K C) ∨ ∃ f, fl = [f] ∧ XIc P K mg C f)
section
variable {B : Bs} {X : Cx} {e a : Expr} {es : List Expr} {pos p p2 : Pos} {np : Nat} {cf : Nat → List Sl → CRes} {ca cb : PV.C} {x f nm : Str} {c k : Nat} {su bl : List Str}
theorem t_mkX {fl : List Str} (M : XMk X.prog X.K X.mg x fl) (hrm : Room k X.A) (ha : SL B X (e :: es) (evEs np cf ca)) (hci : clsT[c]? = some ⟨x, false, fl, true, su⟩ := by rfl) (hg : Gl X x := by rfl) (hdb : (x == ("__debug__" : Str)) = false := by rfl)
    (he : starEach (e :: es) X.env = (false, eval e X.env) :: starEach es X.env := by rfl) (hpl : (PySem.backTo pos (starEach es X.env)).any (·.1) = false := by rfl) : SE B X (.Call (.Name x p) (e :: es) [] pos) (evE np cf (.mkX c ca)) := by
  obtain ⟨C, hm, kC, ⟨hf, T⟩ | ⟨f, hf, T⟩⟩ := M.ex
  · exact se_mkP T hci rfl hf hg hm kC hdb he hpl ha
  · exact se_mkI T hrm hci rfl hf hg hm kC hdb he hpl ha
theorem t_mkX0 (M : XMk X.prog X.K X.mg x []) (hci : clsT[c]? = some ⟨x, false, [], true, su⟩ := by rfl) (hg : Gl X x := by rfl) (hdb : (x == ("__debug__" : Str)) = false := by rfl) : SE B X (.Call (.Name x p) [] [] pos) (evE np cf (.mkX c .nil)) := by
  obtain ⟨C, hm, kC, ⟨hf, T⟩ | ⟨f, hf, T⟩⟩ := M.ex
  · exact se_mkP0 T hci rfl rfl hg hm kC hdb
  · cases hf
/-- isinstance(e, X), X own or built-in -/
structure IsO (K : Frag) (mg : Str → Option Value) (x : Str) : Prop where
  ex : ∃ C, mg x = some (.ref C) ∧ IsX K mg x (.ref C)
theorem t_isO (T : IsO X.K X.mg x) (hb : Blts X.mg bl) (ha : SE B X a (evE np cf ca)) (hx : bl.elem ("isinstance" : Str) = true := by decide +kernel) (hg : Gl X "isinstance" := by rfl) (hgx : Gl X x := by rfl) (hdb : (x == ("__debug__" : Str)) = false := by rfl)
    (hs : starEach [a, .Name x p2] X.env = (false, eval a X.env) :: starEach [.Name x p2] X.env := by rfl) : SE B X (.Call (.Name "isinstance" p) [a, .Name x p2] [] pos) (evE np cf (.isiX x ca)) := by
  obtain ⟨C, hm, T⟩ := T.ex
  exact se_isiX (cV := V.ref C) T (fun u z => z) hg (hb.at _ hx) (pe_glob (v := V.ref C) hgx hm rfl hdb) hs ha
theorem t_isB {n : String} (T : IsX X.K X.mg x (.type n)) (hb : Blts X.mg bl) (ha : SE B X a (evE np cf ca)) (hx : bl.elem ("isinstance" : Str) = true := by decide +kernel) (hg : Gl X "isinstance" := by rfl) (hxx : bl.elem x = true := by decide +kernel) (hgx : Gl X x := by rfl) (hdb : (x == ("__debug__" : Str)) = false := by rfl)
    (hvt : bootBuiltins x = some (.type n) := by decide +kernel) (hn : x ≠ "__name__" := by decide +kernel) (hs : starEach [a, .Name x p2] X.env = (false, eval a X.env) :: starEach [.Name x p2] X.env := by rfl) : SE B X (.Call (.Name "isinstance" p) [a, .Name x p2] [] pos) (evE np cf (.isiX x ca)) :=
  se_isiX (cV := V.ty n) T (fun u z => z) hg (hb.at _ hx) (pe_bltn (v := V.ty n) hgx (hb.at _ hxx) hvt rfl hn hdb) hs ha
theorem t_fldX (hxa : ∃ cs, XKnown X.mg cs ∧ xallB X.K cs = true) (ha : SE B X e (evE np cf ca)) (hci : clsT[c]? = some ⟨x, false, [f], true, su⟩ := by rfl) (hb : attributeBase e f X.env (eval e X.env) = eval e X.env := by rfl) :
    SE B X (.Attribute e f pos) (evE np cf (.fld c 0 ca)) := by
  obtain ⟨cs, hk, h1⟩ := hxa
  exact se_fldX hci rfl rfl (fldx_ok hk h1 hci rfl rfl) hb ha
theorem t_dsp {keys : List (Option Expr)} {values : List Expr} {ks : List Str} (hb : SPr B X pos keys values ks (evEs np cf ca)) (h0 : keys ≠ [] := by intro z; cases z) : SE B X (.Dict keys values pos) (evE np cf (.dsp ks ca)) := se_dsp h0 hb
theorem t_repr (hrm : Room k X.A) (hgd : X.A.guards = some []) (hb : Blts X.mg bl) (ha : SE B X a (evE np cf ca)) (hx : bl.elem ("repr" : Str) = true := by decide +kernel) (hg : Gl X "repr" := by rfl) (hs : starEach [a] X.env = (false, eval a X.env) :: starEach [] X.env := by rfl) :
    SE B X (.Call (.Name "repr" p) [a] [] pos) (evE np cf (.repr ca)) := se_repr hrm hgd hg (hb.at _ hx) hs ha
theorem t_callG {n fi : Nat} (C : CalleeG X.prog X.w X.K X.mg X.base k x n (cf fi)) (hrm : Room k X.A) (hgd : X.A.guards = some []) (ha : SAr B X (e :: es) (evAs np cf ca)) (hg : Gl X x := by rfl) (hdb : (x == ("__debug__" : Str)) = false := by rfl) (he : starEach (e :: es) X.env = (false, eval e X.env) :: starEach es X.env := by rfl)
    (hpl : (PySem.backTo pos (starEach es X.env)).any (·.1) = false := by rfl) (hlen : (e :: es).length = n := by rfl) (hal : clen ca = n := by rfl) : SE B X (.Call (.Name x p) (e :: es) [] pos) (evE np cf (.callG fi ca)) := se_callG C hrm hgd hg hdb he hpl hlen ha fun ρ l ρ' h => (evAs_length ca ρ l ρ' h).trans hal
theorem t_lApp (o : Nat) {apos : Pos} (ha : SE B X e (evE np cf ca)) (ho : X.N[o]? = some x := by rfl) (hv : Vis X.env.scope x := by first | exact .inl rfl | exact .inr (.inl rfl) | exact .inr (.inr rfl)) (hd : (x == ("__debug__" : Str)) = false := by rfl) (hcd : (x == ("__classdict__" : Str)) = false := by rfl)
    (hb : attributeBase (.Name x p2) "append" X.env (eval (.Name x p2) X.env) = eval (.Name x p2) X.env := by rfl) (hl : (apos.endLine == pos.line) = true := by rfl) (hs : starEach [e] X.env = (false, eval e X.env) :: starEach [] X.env := by rfl) : SE B X (.Call (.Attribute (.Name x p2) "append" apos) [e] [] pos) (evE np cf (.lApp o ca)) :=
  se_lApp ⟨ho, hv, hd, hcd, hb, hl⟩ hs ha
theorem t_lPop (o : Nat) {apos : Pos} (ho : X.N[o]? = some x := by rfl) (hv : Vis X.env.scope x := by first | exact .inl rfl | exact .inr (.inl rfl) | exact .inr (.inr rfl)) (hd : (x == ("__debug__" : Str)) = false := by rfl) (hcd : (x == ("__classdict__" : Str)) = false := by rfl)
    (hb : attributeBase (.Name x p2) "pop" X.env (eval (.Name x p2) X.env) = eval (.Name x p2) X.env := by rfl) (hl : (apos.endLine == pos.line) = true := by rfl) : SE B X (.Call (.Attribute (.Name x p2) "pop" apos) [] [] pos) (evE np cf (.lPop o)) := se_lPop ⟨ho, hv, hd, hcd, hb, hl⟩
end
section
variable {P : Program} {w : World} {K : Frag} {mg : Str → Option Value} {base : Heap} {f : Addr} {fd : FuncData} {ps : List Str}
theorem zeroG {fs : List Fn} {j np : Nat} (h : ps.length = np) : FnG P w K mg base 0 f fd ps (spF ⟨K, mg⟩ np (PV.run fs 0 j)) :=
  ⟨fun vs H Q E q => by rw [q.1, h], fun A outer s H args us vs Q E hr hg e0 hb hv q => by obtain ⟨_, _, _, _, _, _, z, _⟩ := q; cases z⟩
end
end PV

/-! PvD: the dice that every law throws. -/
namespace PV
open PySem hiding run
open L2
abbrev I (i : Int) : Sl := .fz (.int i)
theorem mulOk_l {i j : Int} (h : i.natAbs < 2 ^ 64) : mulOk i j = true := by unfold mulOk; rw [decide_eq_true h]; rfl
theorem mulOk_r {i j : Int} (h : j.natAbs < 2 ^ 64) : mulOk i j = true := by unfold mulOk; rw [decide_eq_true h, Bool.or_true]
theorem divOk_of {j : Int} (h : 0 < j) (h2 : j.natAbs < 2 ^ 9000) : divOk j = true := by
  unfold divOk
  rw [decide_eq_true h, Bool.true_and]
  exact decide_eq_true ((Nat.log2_lt (by omega)).mpr h2)
theorem small {j : Int} (h : j.natAbs < 2 ^ 64) : j.natAbs < 2 ^ 9000 := Nat.lt_of_lt_of_le h (Nat.pow_le_pow_right (by decide) (by decide))
/-- _law_dice -/
def diceF : Fn := ⟨2, 6, (.cons (.sAsg (.tName 2) (.bin .Add (.bin .Mult (.con (.int 89)) (.slot 1)) (.con (.int 61)))) (.cons (.sIf (.tVal (.cmp .Lt (.slot 1) (.bi .len (.slot 0)))) (.cons (.sAsg (.tName 2) (.sub (.slot 0) (.slot 1))) .nil) .nil) (.cons (.sAsg (.tName 3) (.bin .Mod (.bi .int (.bi .abs (.slot 2))) (.bin .Pow (.bin .Pow (.con (.int 10)) (.con (.int 60))) (.con (.int 10))))) (.cons (.sAsg (.tName 4) (.bin .FloorDiv (.slot 3) (.bin .Pow (.con (.int 10)) (.con (.int 18))))) (.cons (.sAsg (.tName 5) (.bin .Add (.bin .Add (.bin .Add (.bin .Mult (.bin .Mod (.slot 3) (.con (.int 2147482873))) (.con (.int 60493))) (.bin .Mult (.con (.int 3491)) (.slot 1))) (.bin .Mult (.con (.int 67)) (.bi .int (.cmp .Lt (.slot 2) (.con (.int 0)))))) (.con (.int 97)))) (.cons (.sRet (.lst (.cons (.slot 4) (.cons (.bin .Mod (.slot 5) (.con (.int 2147482867))) (.cons (.con (.int 0)) .nil))))) .nil))))))⟩
/-- _law_roll -/
def rollF : Fn := ⟨2, 6, (.cons (.sAsg (.tName 2) (.bi .int (.slot 1))) (.cons (.sIf (.tVal (.cmp .Gt (.sub (.slot 0) (.con (.int 0))) (.con (.int 0)))) (.cons (.sAsg (.tName 5) (.bin .Mod (.sub (.slot 0) (.con (.int 0))) (.slot 2))) (.cons (.sSub 0 (.con (.int 0)) (.bin .FloorDiv (.sub (.slot 0) (.con (.int 0))) (.slot 2))) (.cons (.sRet (.bi .int (.slot 5))) .nil))) .nil) (.cons (.sSub 0 (.con (.int 2)) (.bin .Add (.sub (.slot 0) (.con (.int 2))) (.con (.int 1)))) (.cons (.sAsg (.tName 3) (.bin .Mod (.bin .Add (.sub (.slot 0) (.con (.int 1))) (.bin .Mult (.con (.int 1000303)) (.sub (.slot 0) (.con (.int 2))))) (.con (.int 2305843009213693951)))) (.cons (.sAsg (.tName 4) (.bin .Add (.bin .Mult (.bin .Mod (.bin .Mult (.slot 3) (.slot 3)) (.con (.int 2305843009213693921))) (.slot 3)) (.bin .Mult (.con (.int 9461)) (.sub (.slot 0) (.con (.int 2)))))) (.cons (.sAsg (.tName 4) (.bin .Mod (.slot 4) (.con (.int 2305843009213693907)))) (.cons (.sRet (.bi .int (.bin .Mod (.bin .FloorDiv (.slot 4) (.con (.int 4096))) (.slot 2)))) .nil)))))))⟩
/-- _law_one_of, the number of _law_roll -/
def oneF (r : Nat) : Fn := ⟨2, 2, (.cons (.sRet (.sub (.slot 1) (.call r (.cons (.slot 0) (.cons (.bi .len (.slot 1)) .nil))))) .nil)⟩
section
variable {cf : Nat → List Sl → CRes}
theorem dice_run (ns : List Int) (k : Nat) : ∃ x y z, runF cf diceF [.fz (.scr ns), I k] = .ok (.ow (.lst [.int x, .int y, .int z])) [.fz (.scr ns), I k] := by
  have p1 : powOk 10 60 = true := by decide
  have p2 : powOk (10 ^ 60) 10 = true := by decide
  have p3 : powOk 10 18 = true := by decide
  have p2' := p2
  have d1 : divOk (10 ^ 18) = true := by decide
  have d2 := d1
  simp only [Int.reducePow] at p2' d2
  have m1 : ∀ j, mulOk 89 j = true := fun _ => mulOk_l (by decide)
  have m2 : ∀ j, mulOk j 60493 = true := fun _ => mulOk_r (by decide)
  have m3 : ∀ j, mulOk 3491 j = true := fun _ => mulOk_l (by decide)
  have m4 : ∀ j, mulOk 67 j = true := fun _ => mulOk_l (by decide)
  by_cases hk : k < ns.length
  · have hk' : (k : Int) < (ns.length : Int) := by omega
    rw [runF_eq rfl]
    simp [diceF, p1, p2, p2', p3, d1, d2, m1, m2, m3, m4, hk, ixD_nn (show 0 ≤ (k : Int) by omega) hk', lstR, maxLen]
  · rw [runF_eq rfl]
    simp [diceF, p1, p2, p2', p3, d1, d2, m1, m2, m3, m4, hk, lstR, maxLen]
abbrev Dc (x y z : Int) : Sl := .ow (.lst [.int x, .int y, .int z])
theorem roll_run (x y z : Int) {s : Int} (h : 0 < s) (h2 : s < 2 ^ 64) : ∃ (v x' z' : Int), 0 ≤ v ∧ v < s ∧ runF cf rollF [Dc x y z, I s] = .ok (.fz (.int v)) [Dc x' y z', I s] := by
  have hd : divOk s = true := divOk_of h (small (by omega))
  by_cases hx : 0 < x
  · refine ⟨x % s, x / s, z, Int.emod_nonneg _ (by omega), Int.emod_lt_of_pos _ h, ?_⟩
    rw [runF_eq rfl]
    simp [rollF, hx, h, hd]
  · let one := (y + 1000303 * (z + 1)) % 2305843009213693951
    let two := (one * one % 2305843009213693921 * one + 9461 * (z + 1)) % 2305843009213693907
    refine ⟨two / 4096 % s, x, z + 1, Int.emod_nonneg _ (by omega), Int.emod_lt_of_pos _ h, ?_⟩
    have o1 : 0 ≤ one ∧ one < 2305843009213693951 := ⟨Int.emod_nonneg _ (by decide), Int.emod_lt_of_pos _ (by decide)⟩
    have m1 : mulOk 1000303 (z + 1) = true := mulOk_l (by decide)
    have m2 : mulOk one one = true := mulOk_l (by omega)
    have m3 : mulOk (one * one % 2305843009213693921) one = true := mulOk_r (by omega)
    have m4 : mulOk 9461 (z + 1) = true := mulOk_l (by decide)
    have d1 : divOk 4096 = true := by decide
    have e1 : (y + 1000303 * (z + 1)) % 2305843009213693951 = one := rfl
    have e2 : (one * one % 2305843009213693921 * one + 9461 * (z + 1)) % 2305843009213693907 = two := rfl
    rw [runF_eq rfl]
    simp [rollF, hx, h, m1, m2, m3, m4, d1, e1, e2]
theorem one_run {r : Nat} (hr : ∀ ps, cf r ps = runF (fun _ _ => .fail) rollF ps) (x y z : Int) (l : List D) (h : 0 < l.length) (h2 : l.length ≤ maxLen) : ∃ (d : D) (x' z' : Int), d ∈ l ∧ runF cf (oneF r) [Dc x y z, .fz (.lst l)] = .ok (.fz d) [Dc x' y z', .fz (.lst l)] := by
  unfold maxLen at h2
  obtain ⟨v, x', z', hv, hv2, e⟩ := roll_run (cf := fun _ _ => .fail) x y z (s := l.length) (by omega) (by omega)
  have hk : v.toNat < l.length := by omega
  refine ⟨l[v.toNat], x', z', List.getElem_mem _, ?_⟩
  rw [runF_eq rfl]
  simp [oneF, hr, e, ixD_nn hv hv2, hk]
/-- _law_roll calls nothing -/
theorem roll_any (ps : List Sl) : runF cf rollF ps = runF (fun _ _ => .fail) rollF ps := rfl
end
end PV

namespace K00
open PySem L2 PV
/-- _law_dice: 0 _law_script 1 _law_at 2 _law_cell 3 _law_great 4 _law_left 5 _law_mixed -/
def c0 : Fn := ⟨2, 6, (.cons (.sAsg (.tName 2) (.bin .Add (.bin .Mult (.con (.int 89)) (.slot 1)) (.con (.int 61)))) (.cons (.sIf (.tVal (.cmp .Lt (.slot 1) (.bi .len (.slot 0)))) (.cons (.sAsg (.tName 2) (.sub (.slot 0) (.slot 1))) .nil) .nil) (.cons (.sAsg (.tName 3) (.bin .Mod (.bi .int (.bi .abs (.slot 2))) (.bin .Pow (.bin .Pow (.con (.int 10)) (.con (.int 60))) (.con (.int 10))))) (.cons (.sAsg (.tName 4) (.bin .FloorDiv (.slot 3) (.bin .Pow (.con (.int 10)) (.con (.int 18))))) (.cons (.sAsg (.tName 5) (.bin .Add (.bin .Add (.bin .Add (.bin .Mult (.bin .Mod (.slot 3) (.con (.int 2147482873))) (.con (.int 60493))) (.bin .Mult (.con (.int 3491)) (.slot 1))) (.bin .Mult (.con (.int 67)) (.bi .int (.cmp .Lt (.slot 2) (.con (.int 0)))))) (.con (.int 97)))) (.cons (.sRet (.lst (.cons (.slot 4) (.cons (.bin .Mod (.slot 5) (.con (.int 2147482867))) (.cons (.con (.int 0)) .nil))))) .nil))))))⟩
/-- _law_roll: 0 _law_dice_here 1 _law_total 2 _law_size 3 _law_one 4 _law_two 5 _law_drawn -/
def c1 : Fn := ⟨2, 6, (.cons (.sAsg (.tName 2) (.bi .int (.slot 1))) (.cons (.sIf (.tVal (.cmp .Gt (.sub (.slot 0) (.con (.int 0))) (.con (.int 0)))) (.cons (.sAsg (.tName 5) (.bin .Mod (.sub (.slot 0) (.con (.int 0))) (.slot 2))) (.cons (.sSub 0 (.con (.int 0)) (.bin .FloorDiv (.sub (.slot 0) (.con (.int 0))) (.slot 2))) (.cons (.sRet (.bi .int (.slot 5))) .nil))) .nil) (.cons (.sSub 0 (.con (.int 2)) (.bin .Add (.sub (.slot 0) (.con (.int 2))) (.con (.int 1)))) (.cons (.sAsg (.tName 3) (.bin .Mod (.bin .Add (.sub (.slot 0) (.con (.int 1))) (.bin .Mult (.con (.int 1000303)) (.sub (.slot 0) (.con (.int 2))))) (.con (.int 2305843009213693951)))) (.cons (.sAsg (.tName 4) (.bin .Add (.bin .Mult (.bin .Mod (.bin .Mult (.slot 3) (.slot 3)) (.con (.int 2305843009213693921))) (.slot 3)) (.bin .Mult (.con (.int 9461)) (.sub (.slot 0) (.con (.int 2)))))) (.cons (.sAsg (.tName 4) (.bin .Mod (.slot 4) (.con (.int 2305843009213693907)))) (.cons (.sRet (.bi .int (.bin .Mod (.bin .FloorDiv (.slot 4) (.con (.int 4096))) (.slot 2)))) .nil)))))))⟩
/-- _law_one_of: 0 _law_dice_here 1 _law_items -/
def c2 : Fn := ⟨2, 2, (.cons (.sRet (.sub (.slot 1) (.call 1 (.cons (.slot 0) (.cons (.bi .len (.slot 1)) .nil))))) .nil)⟩
/-- _law_kinds: 0 _law_error 1 _law_told 2 _law_one -/
def c3 : Fn := ⟨1, 3, (.cons (.sAsg (.tName 1) (.lst (.cons (.isiX "InvalidOrder" (.slot 0)) (.cons (.isiX "InvalidLot" (.slot 0)) (.cons (.isiX "InvalidLineup" (.slot 0)) .nil))))) (.cons (.sAsg (.tName 1) (.bin .Add (.slot 1) (.lst (.cons (.isiX "InvalidOperation" (.slot 0)) (.cons (.isiX "ParseError" (.slot 0)) (.cons (.isiX "OrderError" (.slot 0)) .nil)))))) (.cons (.sAsg (.tName 1) (.bin .Add (.slot 1) (.lst (.cons (.isiX "ValueError" (.slot 0)) (.cons (.isiX "UnknownPlace" (.slot 0)) (.cons (.isiX "InvalidNumber" (.slot 0)) .nil)))))) (.cons (.sAsg (.tName 1) (.bin .Add (.slot 1) (.lst (.cons (.isiX "Circle" (.slot 0)) (.cons (.isiX "TooMany" (.slot 0)) (.cons (.isiX "NothingToUndo" (.slot 0)) .nil)))))) (.cons (.sAsg (.tName 1) (.bin .Add (.slot 1) (.lst (.cons (.isiX "Refused" (.slot 0)) (.cons (.isiX "KeyError" (.slot 0)) (.cons (.isiX "ArithmeticError" (.slot 0)) .nil)))))) (.cons (.sAsg (.tName 1) (.bin .Add (.slot 1) (.lst (.cons (.isiX "LookupError" (.slot 0)) (.cons (.isiX "OverflowError" (.slot 0)) (.cons (.isiX "IndexError" (.slot 0)) .nil)))))) (.cons (.sExpr (.lApp 1 (.isiX "RuntimeError" (.slot 0)))) (.cons (.sRet (.join (.con (.str (Str.ofString ""))) (.lc (.ite (.tVal (.slot 2)) (.con (.str (Str.ofString "x"))) (.con (.str (Str.ofString ".")))) (.tName 2) (.iVal (.slot 1)) .nil [2]))) .nil))))))))⟩
/-- _law_right: 0 _law_dice_here 1 _law_thing 2 _law_base 3 _law_due 4 _law_none 5 _law_others 6 _law_kept 7 _law_one -/
def c4 : Fn := ⟨1, 8, (.cons (.sAsg (.tName 1) (.call 2 (.cons (.slot 0) (.cons (.lst (.cons (.con (.int 0)) (.cons (.con (.str (Str.ofString ""))) (.cons (.con (.str (Str.ofString "a"))) (.cons (.con .non) (.cons (.tup .nil) (.cons (.tup (.cons (.con (.str (Str.ofString "a"))) (.cons (.con (.int 1)) .nil))) (.cons (.bin .Pow (.con (.int 10)) (.con (.int 30))) (.cons (.con (.bl true)) (.cons (.lst (.cons (.con (.int 1)) .nil)) (.cons (.dsp ["a"] (.cons (.tup .nil) .nil)) (.cons (.neg (.con (.int 7))) .nil)))))))))))) .nil)))) (.cons (.sAsg (.tName 2) (.lst (.cons (.mkX 3 (.cons (.slot 1) .nil)) (.cons (.mkX 4 (.cons (.slot 1) .nil)) (.cons (.mkX 5 (.cons (.slot 1) .nil)) (.cons (.mkX 6 (.cons (.slot 1) .nil)) (.cons (.mkX 7 (.cons (.slot 1) .nil)) .nil))))))) (.cons (.sAsg (.tName 3) (.lst (.cons (.con (.str (Str.ofString "x....xx............"))) (.cons (.con (.str (Str.ofString ".x...xx............"))) (.cons (.con (.str (Str.ofString "..x..xx............"))) .nil))))) (.cons (.sAsg (.tName 3) (.bin .Add (.slot 3) (.lst (.cons (.con (.str (Str.ofString "...x.xx............"))) .nil)))) (.cons (.sIf (.tVal (.cmp .NotEq (.lc (.call 3 (.cons (.slot 7) .nil)) (.tName 7) (.iVal (.slot 2)) .nil [7]) (.bin .Add (.slot 3) (.lst (.cons (.con (.str (Str.ofString "....xxx............"))) .nil))))) (.cons (.sRet (.con (.bl false))) .nil) .nil) (.cons (.sAsg (.tName 4) (.lst (.cons (.mkX 3 .nil) (.cons (.mkX 4 .nil) (.cons (.mkX 5 .nil) (.cons (.mkX 6 .nil) .nil)))))) (.cons (.sIf (.tVal (.cmp .NotEq (.lc (.call 3 (.cons (.slot 7) .nil)) (.tName 7) (.iVal (.slot 4)) .nil [7]) (.slot 3))) (.cons (.sRet (.con (.bl false))) .nil) .nil) (.cons (.sAsg (.tName 5) (.lst (.cons (.mkX 8 (.cons (.slot 1) .nil)) (.cons (.mkX 9 (.cons (.slot 1) .nil)) (.cons (.mkX 10 (.cons (.slot 1) .nil)) (.cons (.mkX 11 (.cons (.slot 1) .nil)) (.cons (.mkX 12 (.cons (.slot 1) .nil)) .nil))))))) (.cons (.sExpr (.lApp 5 (.mkX 13 (.cons (.slot 1) .nil)))) (.cons (.sAsg (.tName 3) (.lst (.cons (.con (.str (Str.ofString ".......x.....x.x..."))) (.cons (.con (.str (Str.ofString "........x.....x...."))) (.cons (.con (.str (Str.ofString ".........x.....x..."))) .nil))))) (.cons (.sAsg (.tName 3) (.bin .Add (.slot 3) (.lst (.cons (.con (.str (Str.ofString "..........x...x.x.."))) (.cons (.con (.str (Str.ofString "...........x...x.x."))) (.cons (.con (.str (Str.ofString "............x.....x"))) .nil)))))) (.cons (.sIf (.tVal (.cmp .NotEq (.lc (.call 3 (.cons (.slot 7) .nil)) (.tName 7) (.iVal (.slot 5)) .nil [7]) (.slot 3))) (.cons (.sRet (.con (.bl false))) .nil) .nil) (.cons (.sAsg (.tName 6) (.lst (.cons (.fld 7 0 (.sub (.slot 2) (.con (.int 4)))) (.cons (.fld 8 0 (.sub (.slot 5) (.con (.int 0)))) (.cons (.fld 9 0 (.sub (.slot 5) (.con (.int 1)))) (.cons (.fld 10 0 (.sub (.slot 5) (.con (.int 2)))) (.cons (.fld 11 0 (.sub (.slot 5) (.con (.int 3)))) (.cons (.fld 12 0 (.sub (.slot 5) (.con (.int 4)))) .nil)))))))) (.cons (.sExpr (.lApp 6 (.fld 13 0 (.sub (.slot 5) (.con (.int 5)))))) (.cons (.sRet (.cmp .Eq (.repr (.slot 6)) (.repr (.bin .Mult (.lst (.cons (.slot 1) .nil)) (.con (.int 7)))))) .nil)))))))))))))))⟩
/-- law: 0 _law_script 1 _law_spot 2 _law_dice_here 3 _law_turn -/
def c5 : Fn := ⟨1, 4, (.cons (.sFor (.tName 1) (.iRng1 (.bi2 true (.con (.int 1)) (.bi2 false (.con (.int 8)) (.bi .len (.slot 0))))) (.cons (.sAsg (.tName 2) (.call 0 (.cons (.slot 0) (.cons (.slot 1) .nil)))) (.cons (.sFor (.tName 3) (.iRng1 (.con (.int 4))) (.cons (.sIf (.tNot (.tVal (.callG 4 (.cons (.slot 2) .nil)))) (.cons (.sRet (.con (.bl false))) .nil) .nil) .nil)) .nil))) (.cons (.sRet (.cmp .Eq (.lst (.cons (.fld 7 0 (.mkX 7 (.cons (.con .non) .nil))) (.cons (.fld 7 0 (.mkX 7 (.cons (.con (.int 3)) .nil))) (.cons (.fld 11 0 (.mkX 11 (.cons (.con (.int 4000)) .nil))) .nil)))) (.lst (.cons (.con .non) (.cons (.con (.int 3)) (.cons (.con (.int 4000)) .nil)))))) .nil))⟩
def code : List Fn := [c0, c1, c2, c3, c4, c5]
theorem r0 (n : Nat) (ps : List Sl) : PV.run code (n + 1) 0 ps = runF (PV.run code n) c0 ps := rfl
theorem r1 (n : Nat) (ps : List Sl) : PV.run code (n + 1) 1 ps = runF (PV.run code n) c1 ps := rfl
theorem r2 (n : Nat) (ps : List Sl) : PV.run code (n + 1) 2 ps = runF (PV.run code n) c2 ps := rfl
theorem r3 (n : Nat) (ps : List Sl) : PV.run code (n + 1) 3 ps = runF (PV.run code n) c3 ps := rfl
theorem r4 (n : Nat) (ps : List Sl) : PV.run code (n + 1) 4 ps = runF (PV.run code n) c4 ps := rfl
theorem r5 (n : Nat) (ps : List Sl) : PV.run code (n + 1) 5 ps = runF (PV.run code n) c5 ps := rfl
end K00

namespace K00
open PySem L2 PV
def topS (i : Nat) : Stmt := PySem.Challenge.pw_downsets_k00_errors_and_what_they_keep.main.body.getD i (.Pass ⟨0, 0, 0, 0⟩)
def bltN : List Str := ["ArithmeticError", "IndexError", "KeyError", "LookupError", "OverflowError", "RuntimeError", "ValueError", "abs", "int", "isinstance", "len", "max", "min", "range", "repr"]
section
variable {P : Program} {w : World} {K : PySem.W.Frag} {mg : Str → Option Value} {base : Heap}
theorem s0 : FnScope ["_law_script", "_law_at", "_law_cell", "_law_great", "_law_left", "_law_mixed"] ["_law_script", "_law_at"] (defScope (topS 14)) := ⟨rfl, rfl, rfl, by decide +kernel, rfl, by decide +kernel, by decide +kernel⟩
theorem b0 {k : Nat} {cf : Nat → List Sl → CRes} (hbl : Blts mg bltN) {f : Addr} (B : Bs) (cdv : Value) (A : Around) (outer : List Env) (s : Shared) (H : Hp) (E : XK) (_ : B.np = c0.np) (hr : Room k (A.deeper (PyProof.Rows.envOfC "_law_dice" (defScope (topS 14)) s.heap.objs.size f cdv))) :
    SSs B (Xf P w K mg base ["_law_script", "_law_at", "_law_cell", "_law_great", "_law_left", "_law_mixed"] "_law_dice" (defScope (topS 14)) f cdv A outer s H E) (defBody (topS 14)) (evSs B.np cf c0.body) := by
  have hu := room_cmp hr
  have sN := s0.nd
  exact (sss_cons (ts_set sN (se_bin (se_bin se_int (t_slot 1)) se_int)) (sss_cons (ss_if (tt_cmp hu (t_slot 1) (t_bi rfl hbl (t_slot 0))) (sss_cons (ts_set sN (t_sub hu (t_slot 0) (t_slot 1))) sss_nil) sss_nil) (sss_cons (ts_set sN (se_bin (t_bi rfl hbl (t_bi rfl hbl (t_slot 2))) (se_bin (se_bin se_int se_int) se_int))) (sss_cons (ts_set sN (se_bin (t_slot 3) (se_bin se_int se_int))) (sss_cons (ts_set sN (se_bin (se_bin (se_bin (se_bin (se_bin (t_slot 3) se_int) se_int) (se_bin se_int (t_slot 1))) (se_bin se_int (t_bi rfl hbl (t_cmp hu (t_slot 2) se_int)))) se_int)) (sss_cons (ss_ret (se_lst (tl_cons (t_slot 4) (tl_cons (se_bin (t_slot 5) se_int) (tl_cons se_int sl_nil))))) sss_nil))))))
theorem s1 : FnScope ["_law_dice_here", "_law_total", "_law_size", "_law_one", "_law_two", "_law_drawn"] ["_law_dice_here", "_law_total"] (defScope (topS 15)) := ⟨rfl, rfl, rfl, by decide +kernel, rfl, by decide +kernel, by decide +kernel⟩
theorem b1 {k : Nat} {cf : Nat → List Sl → CRes} (hbl : Blts mg bltN) {f : Addr} (B : Bs) (cdv : Value) (A : Around) (outer : List Env) (s : Shared) (H : Hp) (E : XK) (_ : B.np = c1.np) (hr : Room k (A.deeper (PyProof.Rows.envOfC "_law_roll" (defScope (topS 15)) s.heap.objs.size f cdv))) :
    SSs B (Xf P w K mg base ["_law_dice_here", "_law_total", "_law_size", "_law_one", "_law_two", "_law_drawn"] "_law_roll" (defScope (topS 15)) f cdv A outer s H E) (defBody (topS 15)) (evSs B.np cf c1.body) := by
  have hu := room_cmp hr
  have sN := s1.nd
  exact (sss_cons (ts_set sN (t_bi rfl hbl (t_slot 1))) (sss_cons (ss_if (tt_cmp hu (t_sub hu (t_slot 0) se_int) se_int) (sss_cons (ts_set sN (se_bin (t_sub hu (t_slot 0) se_int) (t_slot 2))) (sss_cons (ts_sub hu (se_bin (t_sub hu (t_slot 0) se_int) (t_slot 2)) se_int) (sss_cons (ss_ret (t_bi rfl hbl (t_slot 5))) sss_nil))) sss_nil) (sss_cons (ts_sub hu (se_bin (t_sub hu (t_slot 0) se_int) se_int) se_int) (sss_cons (ts_set sN (se_bin (se_bin (t_sub hu (t_slot 0) se_int) (se_bin se_int (t_sub hu (t_slot 0) se_int))) se_int)) (sss_cons (ts_set sN (se_bin (se_bin (se_bin (se_bin (t_slot 3) (t_slot 3)) se_int) (t_slot 3)) (se_bin se_int (t_sub hu (t_slot 0) se_int)))) (sss_cons (ts_set sN (se_bin (t_slot 4) se_int)) (sss_cons (ss_ret (t_bi rfl hbl (se_bin (se_bin (t_slot 4) se_int) (t_slot 2)))) sss_nil)))))))
theorem s2 : FnScope ["_law_dice_here", "_law_items"] ["_law_dice_here", "_law_items"] (defScope (topS 16)) := ⟨rfl, rfl, rfl, by decide +kernel, rfl, by decide +kernel, by decide +kernel⟩
theorem b2 {k : Nat} {cf : Nat → List Sl → CRes} (hbl : Blts mg bltN) (k1 : Callee P w K mg base k "_law_roll" 2 (cf 1)) {f : Addr} (B : Bs) (cdv : Value) (A : Around) (outer : List Env) (s : Shared) (H : Hp) (E : XK) (_ : B.np = c2.np) (hr : Room k (A.deeper (PyProof.Rows.envOfC "_law_one_of" (defScope (topS 16)) s.heap.objs.size f cdv))) :
    SSs B (Xf P w K mg base ["_law_dice_here", "_law_items"] "_law_one_of" (defScope (topS 16)) f cdv A outer s H E) (defBody (topS 16)) (evSs B.np cf c2.body) := by
  have hu := room_cmp hr
  have sN := s2.nd
  exact (sss_cons (ss_ret (t_sub hu (t_slot 1) (t_call k1 hr (tr_slot 0 (tr_val (t_bi rfl hbl (t_slot 1)) sar_nil))))) sss_nil)
theorem s3 : FnScope ["_law_error", "_law_told", "_law_one"] ["_law_error"] (defScope (topS 17)) := ⟨rfl, rfl, rfl, by decide +kernel, rfl, by decide +kernel, by decide +kernel⟩
theorem b3 {k : Nat} {cf : Nat → List Sl → CRes} (hbl : Blts mg bltN) (ho_Circle : IsO K mg "Circle") (ho_InvalidLineup : IsO K mg "InvalidLineup") (ho_InvalidLot : IsO K mg "InvalidLot") (ho_InvalidNumber : IsO K mg "InvalidNumber") (ho_InvalidOperation : IsO K mg "InvalidOperation") (ho_InvalidOrder : IsO K mg "InvalidOrder") (ho_NothingToUndo : IsO K mg "NothingToUndo") (ho_OrderError : IsO K mg "OrderError") (ho_ParseError : IsO K mg "ParseError") (ho_Refused : IsO K mg "Refused") (ho_TooMany : IsO K mg "TooMany") (ho_UnknownPlace : IsO K mg "UnknownPlace") (hb_ArithmeticError : IsX K mg "ArithmeticError" (.type "ArithmeticError")) (hb_IndexError : IsX K mg "IndexError" (.type "IndexError")) (hb_KeyError : IsX K mg "KeyError" (.type "KeyError")) (hb_LookupError : IsX K mg "LookupError" (.type "LookupError")) (hb_OverflowError : IsX K mg "OverflowError" (.type "OverflowError")) (hb_RuntimeError : IsX K mg "RuntimeError" (.type "RuntimeError")) (hb_ValueError : IsX K mg "ValueError" (.type "ValueError")) {f : Addr} (B : Bs) (cdv : Value) (A : Around) (outer : List Env) (s : Shared) (H : Hp) (E : XK) (_ : B.np = c3.np) (hr : Room k (A.deeper (PyProof.Rows.envOfC "_law_kinds" (defScope (topS 17)) s.heap.objs.size f cdv))) :
    SSs B (Xf P w K mg base ["_law_error", "_law_told", "_law_one"] "_law_kinds" (defScope (topS 17)) f cdv A outer s H E) (defBody (topS 17)) (evSs B.np cf c3.body) := by
  have hu := room_cmp hr
  have sN := s3.nd
  exact (sss_cons (ts_set sN (se_lst (tl_cons (t_isO ho_InvalidOrder hbl (t_slot 0)) (tl_cons (t_isO ho_InvalidLot hbl (t_slot 0)) (tl_cons (t_isO ho_InvalidLineup hbl (t_slot 0)) sl_nil))))) (sss_cons (ts_set sN (se_bin (t_slot 1) (se_lst (tl_cons (t_isO ho_InvalidOperation hbl (t_slot 0)) (tl_cons (t_isO ho_ParseError hbl (t_slot 0)) (tl_cons (t_isO ho_OrderError hbl (t_slot 0)) sl_nil)))))) (sss_cons (ts_set sN (se_bin (t_slot 1) (se_lst (tl_cons (t_isB hb_ValueError hbl (t_slot 0)) (tl_cons (t_isO ho_UnknownPlace hbl (t_slot 0)) (tl_cons (t_isO ho_InvalidNumber hbl (t_slot 0)) sl_nil)))))) (sss_cons (ts_set sN (se_bin (t_slot 1) (se_lst (tl_cons (t_isO ho_Circle hbl (t_slot 0)) (tl_cons (t_isO ho_TooMany hbl (t_slot 0)) (tl_cons (t_isO ho_NothingToUndo hbl (t_slot 0)) sl_nil)))))) (sss_cons (ts_set sN (se_bin (t_slot 1) (se_lst (tl_cons (t_isO ho_Refused hbl (t_slot 0)) (tl_cons (t_isB hb_KeyError hbl (t_slot 0)) (tl_cons (t_isB hb_ArithmeticError hbl (t_slot 0)) sl_nil)))))) (sss_cons (ts_set sN (se_bin (t_slot 1) (se_lst (tl_cons (t_isB hb_LookupError hbl (t_slot 0)) (tl_cons (t_isB hb_OverflowError hbl (t_slot 0)) (tl_cons (t_isB hb_IndexError hbl (t_slot 0)) sl_nil)))))) (sss_cons (ts_expr (t_lApp 1 (t_isB hb_RuntimeError hbl (t_slot 0)))) (sss_cons (ss_ret (t_join se_str (t_lc [("_law_one", 2)] rfl sN (si_val (t_slot 1)) (fun _ _ _ _ _ => (tg_name 2 sN)) (fun _ _ _ _ _ => sts_nil) (fun _ _ _ _ _ => (se_ite (tt_val (t_slot 2)) se_str se_str))))) sss_nil))))))))
theorem s4 : FnScope ["_law_dice_here", "_law_thing", "_law_base", "_law_due", "_law_none", "_law_others", "_law_kept", "_law_one"] ["_law_dice_here"] (defScope (topS 18)) := ⟨rfl, rfl, rfl, by decide +kernel, rfl, by decide +kernel, by decide +kernel⟩
theorem b4 {k : Nat} {cf : Nat → List Sl → CRes} (hbl : Blts mg bltN) (k2 : Callee P w K mg base k "_law_one_of" 2 (cf 2)) (k3 : Callee P w K mg base k "_law_kinds" 1 (cf 3)) (hx_Circle : XMk P K mg "Circle" ["circle"]) (hx_InvalidLineup : XMk P K mg "InvalidLineup" []) (hx_InvalidLot : XMk P K mg "InvalidLot" []) (hx_InvalidNumber : XMk P K mg "InvalidNumber" ["value"]) (hx_InvalidOperation : XMk P K mg "InvalidOperation" []) (hx_InvalidOrder : XMk P K mg "InvalidOrder" []) (hx_NothingToUndo : XMk P K mg "NothingToUndo" ["many"]) (hx_ParseError : XMk P K mg "ParseError" ["line"]) (hx_Refused : XMk P K mg "Refused" ["reason"]) (hx_TooMany : XMk P K mg "TooMany" ["limit"]) (hx_UnknownPlace : XMk P K mg "UnknownPlace" ["place"]) (hxa : ∃ cs, XKnown mg cs ∧ xallB K cs = true) {f : Addr} (B : Bs) (cdv : Value) (A : Around) (outer : List Env) (s : Shared) (H : Hp) (E : XK) (_ : B.np = c4.np) (hr : Room k (A.deeper (PyProof.Rows.envOfC "_law_right" (defScope (topS 18)) s.heap.objs.size f cdv))) (hgd : A.guards = some []) :
    SSs B (Xf P w K mg base ["_law_dice_here", "_law_thing", "_law_base", "_law_due", "_law_none", "_law_others", "_law_kept", "_law_one"] "_law_right" (defScope (topS 18)) f cdv A outer s H E) (defBody (topS 18)) (evSs B.np cf c4.body) := by
  have hu := room_cmp hr
  have sN := s4.nd
  exact (sss_cons (ts_set sN (t_call k2 hr (tr_slot 0 (tr_val (se_lst (tl_cons se_int (tl_cons se_str (tl_cons se_str (tl_cons se_non (tl_cons (se_tup sl_nil) (tl_cons (se_tup (tl_cons se_str (tl_cons se_int sl_nil))) (tl_cons (se_bin se_int se_int) (tl_cons se_bl (tl_cons (se_lst (tl_cons se_int sl_nil)) (tl_cons (t_dsp (spr_cons (se_tup sl_nil) spr_nil)) (tl_cons (se_neg se_int) sl_nil)))))))))))) sar_nil)))) (sss_cons (ts_set sN (se_lst (tl_cons (t_mkX hx_InvalidOrder hr (tl_cons (t_slot 1) sl_nil)) (tl_cons (t_mkX hx_InvalidLot hr (tl_cons (t_slot 1) sl_nil)) (tl_cons (t_mkX hx_InvalidLineup hr (tl_cons (t_slot 1) sl_nil)) (tl_cons (t_mkX hx_InvalidOperation hr (tl_cons (t_slot 1) sl_nil)) (tl_cons (t_mkX hx_ParseError hr (tl_cons (t_slot 1) sl_nil)) sl_nil))))))) (sss_cons (ts_set sN (se_lst (tl_cons se_str (tl_cons se_str (tl_cons se_str sl_nil))))) (sss_cons (ts_set sN (se_bin (t_slot 3) (se_lst (tl_cons se_str sl_nil)))) (sss_cons (ss_if (tt_cmp hu (t_lc [("_law_one", 7)] rfl sN (si_val (t_slot 2)) (fun _ _ _ _ _ => (tg_name 7 sN)) (fun _ _ _ _ _ => sts_nil) (fun _ _ _ _ _ => (t_call k3 hr (tr_slot 7 sar_nil)))) (se_bin (t_slot 3) (se_lst (tl_cons se_str sl_nil)))) (sss_cons (ss_ret se_bl) sss_nil) sss_nil) (sss_cons (ts_set sN (se_lst (tl_cons (t_mkX0 hx_InvalidOrder) (tl_cons (t_mkX0 hx_InvalidLot) (tl_cons (t_mkX0 hx_InvalidLineup) (tl_cons (t_mkX0 hx_InvalidOperation) sl_nil)))))) (sss_cons (ss_if (tt_cmp hu (t_lc [("_law_one", 7)] rfl sN (si_val (t_slot 4)) (fun _ _ _ _ _ => (tg_name 7 sN)) (fun _ _ _ _ _ => sts_nil) (fun _ _ _ _ _ => (t_call k3 hr (tr_slot 7 sar_nil)))) (t_slot 3)) (sss_cons (ss_ret se_bl) sss_nil) sss_nil) (sss_cons (ts_set sN (se_lst (tl_cons (t_mkX hx_UnknownPlace hr (tl_cons (t_slot 1) sl_nil)) (tl_cons (t_mkX hx_InvalidNumber hr (tl_cons (t_slot 1) sl_nil)) (tl_cons (t_mkX hx_Circle hr (tl_cons (t_slot 1) sl_nil)) (tl_cons (t_mkX hx_TooMany hr (tl_cons (t_slot 1) sl_nil)) (tl_cons (t_mkX hx_NothingToUndo hr (tl_cons (t_slot 1) sl_nil)) sl_nil))))))) (sss_cons (ts_expr (t_lApp 5 (t_mkX hx_Refused hr (tl_cons (t_slot 1) sl_nil)))) (sss_cons (ts_set sN (se_lst (tl_cons se_str (tl_cons se_str (tl_cons se_str sl_nil))))) (sss_cons (ts_set sN (se_bin (t_slot 3) (se_lst (tl_cons se_str (tl_cons se_str (tl_cons se_str sl_nil)))))) (sss_cons (ss_if (tt_cmp hu (t_lc [("_law_one", 7)] rfl sN (si_val (t_slot 5)) (fun _ _ _ _ _ => (tg_name 7 sN)) (fun _ _ _ _ _ => sts_nil) (fun _ _ _ _ _ => (t_call k3 hr (tr_slot 7 sar_nil)))) (t_slot 3)) (sss_cons (ss_ret se_bl) sss_nil) sss_nil) (sss_cons (ts_set sN (se_lst (tl_cons (t_fldX hxa (t_sub hu (t_slot 2) se_int)) (tl_cons (t_fldX hxa (t_sub hu (t_slot 5) se_int)) (tl_cons (t_fldX hxa (t_sub hu (t_slot 5) se_int)) (tl_cons (t_fldX hxa (t_sub hu (t_slot 5) se_int)) (tl_cons (t_fldX hxa (t_sub hu (t_slot 5) se_int)) (tl_cons (t_fldX hxa (t_sub hu (t_slot 5) se_int)) sl_nil)))))))) (sss_cons (ts_expr (t_lApp 6 (t_fldX hxa (t_sub hu (t_slot 5) se_int)))) (sss_cons (ss_ret (t_cmp hu (t_repr hr hgd hbl (t_slot 6)) (t_repr hr hgd hbl (se_bin (se_lst (tl_cons (t_slot 1) sl_nil)) se_int)))) sss_nil)))))))))))))))
theorem s5 : FnScope ["_law_script", "_law_spot", "_law_dice_here", "_law_turn"] ["_law_script"] (defScope (topS 19)) := ⟨rfl, rfl, rfl, by decide +kernel, rfl, by decide +kernel, by decide +kernel⟩
theorem b5 {k : Nat} {cf : Nat → List Sl → CRes} (hbl : Blts mg bltN) (k0 : Callee P w K mg base k "_law_dice" 2 (cf 0)) (k4 : CalleeG P w K mg base k "_law_right" 1 (cf 4)) (hx_ParseError : XMk P K mg "ParseError" ["line"]) (hx_TooMany : XMk P K mg "TooMany" ["limit"]) (hxa : ∃ cs, XKnown mg cs ∧ xallB K cs = true) {f : Addr} (B : Bs) (cdv : Value) (A : Around) (outer : List Env) (s : Shared) (H : Hp) (E : XK) (_ : B.np = c5.np) (hr : Room k (A.deeper (PyProof.Rows.envOfC "law" (defScope (topS 19)) s.heap.objs.size f cdv))) (hgd : A.guards = some []) :
    SSs B (Xf P w K mg base ["_law_script", "_law_spot", "_law_dice_here", "_law_turn"] "law" (defScope (topS 19)) f cdv A outer s H E) (defBody (topS 19)) (evSs B.np cf c5.body) := by
  have hu := room_cmp hr
  have sN := s5.nd
  exact (sss_cons (ts_for PassesOwn.never rfl (ti_rng1 hbl (t_bi2 rfl hbl se_int (t_bi2 rfl hbl se_int (t_bi rfl hbl (t_slot 0))))) (tg_name 1 sN) (sss_cons (ts_set sN (t_call k0 hr (tr_slot 0 (tr_slot 1 sar_nil)))) (sss_cons (ts_for PassesOwn.never rfl (ti_rng1 hbl se_int) (tg_name 3 sN) (sss_cons (ss_if (st_not (tt_val (t_callG k4 hr hgd (tr_slot 2 sar_nil)))) (sss_cons (ss_ret se_bl) sss_nil) sss_nil) sss_nil)) sss_nil))) (sss_cons (ss_ret (t_cmp hu (se_lst (tl_cons (t_fldX hxa (t_mkX hx_ParseError hr (tl_cons se_non sl_nil))) (tl_cons (t_fldX hxa (t_mkX hx_ParseError hr (tl_cons se_int sl_nil))) (tl_cons (t_fldX hxa (t_mkX hx_TooMany hr (tl_cons se_int sl_nil))) sl_nil)))) (se_lst (tl_cons se_non (tl_cons se_int (tl_cons se_int sl_nil)))))) sss_nil))
end
end K00

namespace K00
open PySem hiding run
open L2 PV
def hdC : C → C
  | .cons a _ => a
  | _ => .nil
def tlC : C → C
  | .cons _ b => b
  | _ => .nil
theorem c0_eq : c0 = diceF := rfl
theorem c1_eq : c1 = rollF := rfl
theorem c2_eq : c2 = oneF 1 := rfl
theorem dice_ev (n : Nat) (ns : List Int) (k : Nat) : ∃ x y z, run code (n + 1) 0 [.fz (.scr ns), I k] = .ok (.ow (.lst [.int x, .int y, .int z])) [.fz (.scr ns), I k] := dice_run ns k
theorem oneOf_ev (n : Nat) (x y z : Int) (l : List D) (h : 0 < l.length) (h2 : l.length ≤ maxLen) : ∃ (d : D) (x' z' : Int), d ∈ l ∧ run code (n + 2) 2 [Dc x y z, .fz (.lst l)] = .ok (.fz d) [Dc x' y z', .fz (.lst l)] :=
  one_run (cf := run code (n + 1)) (r := 1) (fun ps => rfl) x y z l h h2
def things : List D := [.int 0, .str "", .str "a", .non, .tup [], .tup [.str "a", .int 1], .int (10 ^ 30), .bl true, .lst [.int 1], .dct [.inr "a"] [.tup []], .int (-7)]
theorem first_ev (n : Nat) (x y z : Int) : ∃ (d : D) (x' z' : Int), d ∈ things ∧ evS 1 (run code (n + 2)) (hdC c4.body) [Dc x y z, .un, .un, .un, .un, .un, .un, .un] = .next [Dc x' y z', .fz d, .un, .un, .un, .un, .un, .un] := by
  obtain ⟨d, x', z', hd, e⟩ := oneOf_ev n x y z things (by decide) (by decide)
  refine ⟨d, x', z', hd, ?_⟩
  have p1 : powOk 10 30 = true := by decide
  have e2 : run code (n + 2) 2 [Dc x y z, .fz (.lst [.int 0, .str "", .str "a", .non, .tup [], .tup [.str "a", .int 1], .int (10 ^ 30), .bl true, .lst [.int 1], .dct [.inr "a"] [.tup []], .int (-7)])] = .ok (.fz d) [Dc x' y z', .fz (.lst [.int 0, .str "", .str "a", .non, .tup [], .tup [.str "a", .int 1], .int (10 ^ 30), .bl true, .lst [.int 1], .dct [.inr "a"] [.tup []], .int (-7)])] := e
  simp only [Int.reducePow, Int.reduceNeg] at e2
  simp [c4, hdC, p1, lstR, tupR, maxLen, e2]
theorem rest_ev (n : Nat) (x y z : Int) {d : D} (hd : d ∈ things) : endO 1 (evSs 1 (run code (n + 2)) (tlC c4.body) [Dc x y z, .fz d, .un, .un, .un, .un, .un, .un]) = .ok (.fz (.bl true)) [Dc x y z] := by
  unfold things at hd
  simp only [List.mem_cons, List.not_mem_nil, or_false] at hd
  rcases hd with rfl | rfl | rfl | rfl | rfl | rfl | rfl | rfl | rfl | rfl | rfl <;> kernel_rfl
theorem run_two {cf : Nat → List Sl → CRes} {f : Fn} {np : Nat} {ps : List Sl} {a b : C} {ρ0 ρ1 : Rho} {r : CRes} (hn : f.np = np) (hps : ps.length = np) (hb : f.body = .cons a b) (hρ : ps ++ List.replicate (f.nn - f.np) .un = ρ0) (e : evS np cf a ρ0 = .next ρ1) (h : endO np (evSs np cf b ρ1) = r) : runF cf f ps = r := by
  subst hn
  rw [← h]
  unfold runF
  rw [if_pos hps, hρ, hb, evSs, e]
theorem c4_np : c4.np = 1 := by kernel_rfl
theorem c4_b : c4.body = .cons (hdC c4.body) (tlC c4.body) := by kernel_rfl
theorem c4_r (a : Sl) : [a] ++ List.replicate (c4.nn - c4.np) Sl.un = [a, .un, .un, .un, .un, .un, .un, .un] := by kernel_rfl
theorem right_ev (n : Nat) (x y z : Int) : ∃ (x' z' : Int), run code (n + 3) 4 [Dc x y z] = .ok (.fz (.bl true)) [Dc x' y z'] := by
  obtain ⟨d, x', z', hd, e⟩ := first_ev n x y z
  exact ⟨x', z', (r4 (n + 2) _).trans (run_two c4_np rfl c4_b (c4_r _) e (rest_ev n x' y z' hd))⟩
end K00

namespace K00
open PySem hiding run
open L2 PV
abbrev bi5 : C := .cons (.sIf (.tNot (.tVal (.callG 4 (.cons (.slot 2) .nil)))) (.cons (.sRet (.con (.bl false))) .nil) .nil) .nil
abbrev bo5 : C := .cons (.sAsg (.tName 2) (.call 0 (.cons (.slot 0) (.cons (.slot 1) .nil)))) (.cons (.sFor (.tName 3) (.iRng1 (.con (.int 4))) bi5) .nil)
theorem turns (n : Nat) (ns : List Int) (y : Int) : ∀ (ks : List D) (a t : Sl) (x z : Int), ∃ t' x' z', forS 1 (run code (n + 3)) (.tName 3) bi5 ks [.fz (.scr ns), a, Dc x y z, t] = .next [.fz (.scr ns), a, Dc x' y z', t']
  | [], a, t, x, z => ⟨t, x, z, rfl⟩
  | k :: ks, a, t, x, z => by
    obtain ⟨x1, z1, e⟩ := right_ev n x y z
    obtain ⟨t', x', z', ih⟩ := turns n ns y ks a (.fz k) x1 z1
    refine ⟨t', x', z', ?_⟩
    unfold forS at ih ⊢
    rw [forL]
    simp [e]
    exact ih
theorem law_loop (n : Nat) (ns : List Int) : ∀ (ks : List Nat) (x s t : Sl), ∃ x' s' t', forS 1 (run code (n + 3)) (.tName 1) bo5 (ks.map fun (k : Nat) => D.int ((0 : Int) + (k : Int))) [.fz (.scr ns), x, s, t] = .next [.fz (.scr ns), x', s', t']
  | [], x, s, t => ⟨x, s, t, rfl⟩
  | k :: ks, x, s, t => by
    obtain ⟨a, b, c, e1⟩ := dice_ev (n + 2) ns k
    obtain ⟨t1, a1, c1, e2⟩ := turns n ns b (rngD 0 4) (I k) t a c
    obtain ⟨x', s', t', ih⟩ := law_loop n ns ks (I k) (Dc a1 b c1) t1
    refine ⟨x', s', t', ?_⟩
    unfold forS at ih ⊢
    rw [List.map_cons, forL]
    simp only [Int.zero_add] at ih ⊢
    simp [e1, e2]
    exact ih
theorem last_ev (n : Nat) (ns : List Int) (x s t : Sl) : endO 1 (evSs 1 (run code (n + 3)) (tlC c5.body) [.fz (.scr ns), x, s, t]) = .ok (.fz (.bl true)) [.fz (.scr ns)] := by kernel_rfl
theorem c5_np : c5.np = 1 := by kernel_rfl
theorem c5_b : c5.body = .cons (.sFor (.tName 1) (.iRng1 (.bi2 true (.con (.int 1)) (.bi2 false (.con (.int 8)) (.bi .len (.slot 0))))) bo5) (tlC c5.body) := by kernel_rfl
theorem c5_r (a : Sl) : [a] ++ List.replicate (c5.nn - c5.np) Sl.un = [a, .un, .un, .un] := by kernel_rfl
theorem law_ev (n : Nat) (ns : List Int) : ∃ ps', run code (n + 4) 5 [.fz (.scr ns)] = .ok (.fz (.bl true)) ps' := by
  let m : Int := if (if (ns.length : Int) < 8 then (ns.length : Int) else 8) > 1 then (if (ns.length : Int) < 8 then (ns.length : Int) else 8) else 1
  have hm : 1 ≤ m ∧ m ≤ 8 := by show 1 ≤ ite _ _ _ ∧ ite _ _ _ ≤ 8; omega
  obtain ⟨x', s', t', e⟩ := law_loop n ns (List.range m.toNat) .un .un .un
  have e : forS 1 (run code (n + 3)) (.tName 1) bo5 (rngD 0 m.toNat) [.fz (.scr ns), .un, .un, .un] = .next [.fz (.scr ns), x', s', t'] := e
  have h62 : -4611686018427387904 ≤ m ∧ m < 4611686018427387904 := by omega
  have em : (if (if (ns.length : Int) < 8 then (ns.length : Int) else 8) > 1 then (if (ns.length : Int) < 8 then (ns.length : Int) else 8) else 1) = m := rfl
  refine ⟨_, (r5 (n + 3) _).trans (run_two c5_np rfl c5_b (c5_r _) (ρ1 := [.fz (.scr ns), x', s', t']) ?_ (last_ev n ns x' s' t'))⟩
  simp only [evS_for, evI_rng1, evE_bi2, evE_bi, evE_con, evE_slot, R.bind_ok, List.getElem?_cons_zero, slotR_fz, der_fz, Option.bind_some, bi_lenr, ofO_some, bi2R_int, Bool.false_eq_true, if_false, if_true, em, rng1R_int, Int.reducePow, Int.reduceNeg, h62, and_self, bindO_ok, bindN_next, e]
theorem law_true (ns : List Int) (h : ns.length ≤ 63) : ∃ ps', run code 20 5 [.fz (.scr ns)] = .ok (.fz (.bl true)) ps' := law_ev 16 ns
end K00

namespace K00
open PySem L2 PV
section
variable {P : Program} {w : World} {K : PySem.W.Frag} {mg : Str → Option Value} {base : Heap}
/-- what the top has written -/
structure Hd (P : Program) (K : PySem.W.Frag) (mg : Str → Option Value) : Prop where
  bl : Blts mg bltN
  f0 : ∃ f fd, Fun K "_law_dice" "_law_dice" (topS 14) f fd ∧ mg "_law_dice" = some (.ref f) ∧ Binds K fd ["_law_script", "_law_at"] []
  f1 : ∃ f fd, Fun K "_law_roll" "_law_roll" (topS 15) f fd ∧ mg "_law_roll" = some (.ref f) ∧ Binds K fd ["_law_dice_here", "_law_total"] []
  f2 : ∃ f fd, Fun K "_law_one_of" "_law_one_of" (topS 16) f fd ∧ mg "_law_one_of" = some (.ref f) ∧ Binds K fd ["_law_dice_here", "_law_items"] []
  f3 : ∃ f fd, Fun K "_law_kinds" "_law_kinds" (topS 17) f fd ∧ mg "_law_kinds" = some (.ref f) ∧ Binds K fd ["_law_error"] []
  f4 : ∃ f fd, Fun K "_law_right" "_law_right" (topS 18) f fd ∧ mg "_law_right" = some (.ref f) ∧ Binds K fd ["_law_dice_here"] []
  f5 : ∃ f fd, Fun K "law" "law" (topS 19) f fd ∧ mg "law" = some (.ref f) ∧ Binds K fd ["_law_script"] []
  hx_Circle : XMk P K mg "Circle" ["circle"]
  hx_InvalidLineup : XMk P K mg "InvalidLineup" []
  hx_InvalidLot : XMk P K mg "InvalidLot" []
  hx_InvalidNumber : XMk P K mg "InvalidNumber" ["value"]
  hx_InvalidOperation : XMk P K mg "InvalidOperation" []
  hx_InvalidOrder : XMk P K mg "InvalidOrder" []
  hx_NothingToUndo : XMk P K mg "NothingToUndo" ["many"]
  hx_ParseError : XMk P K mg "ParseError" ["line"]
  hx_Refused : XMk P K mg "Refused" ["reason"]
  hx_TooMany : XMk P K mg "TooMany" ["limit"]
  hx_UnknownPlace : XMk P K mg "UnknownPlace" ["place"]
  ho_Circle : IsO K mg "Circle"
  ho_InvalidLineup : IsO K mg "InvalidLineup"
  ho_InvalidLot : IsO K mg "InvalidLot"
  ho_InvalidNumber : IsO K mg "InvalidNumber"
  ho_InvalidOperation : IsO K mg "InvalidOperation"
  ho_InvalidOrder : IsO K mg "InvalidOrder"
  ho_NothingToUndo : IsO K mg "NothingToUndo"
  ho_OrderError : IsO K mg "OrderError"
  ho_ParseError : IsO K mg "ParseError"
  ho_Refused : IsO K mg "Refused"
  ho_TooMany : IsO K mg "TooMany"
  ho_UnknownPlace : IsO K mg "UnknownPlace"
  hb_ArithmeticError : IsX K mg "ArithmeticError" (.type "ArithmeticError")
  hb_IndexError : IsX K mg "IndexError" (.type "IndexError")
  hb_KeyError : IsX K mg "KeyError" (.type "KeyError")
  hb_LookupError : IsX K mg "LookupError" (.type "LookupError")
  hb_OverflowError : IsX K mg "OverflowError" (.type "OverflowError")
  hb_RuntimeError : IsX K mg "RuntimeError" (.type "RuntimeError")
  hb_ValueError : IsX K mg "ValueError" (.type "ValueError")
  hxa : ∃ cs, XKnown mg cs ∧ xallB K cs = true
structure All (P : Program) (w : World) (K : PySem.W.Frag) (mg : Str → Option Value) (base : Heap) (n : Nat) : Prop where
  c0 : Callee P w K mg base n "_law_dice" 2 (PV.run code n 0)
  c1 : Callee P w K mg base n "_law_roll" 2 (PV.run code n 1)
  c2 : Callee P w K mg base n "_law_one_of" 2 (PV.run code n 2)
  c3 : Callee P w K mg base n "_law_kinds" 1 (PV.run code n 3)
  c4 : CalleeG P w K mg base n "_law_right" 1 (PV.run code n 4)
  c5 : CalleeG P w K mg base n "law" 1 (PV.run code n 5)
theorem all_n (T : Hd P K mg) : ∀ n, All P w K mg base n
  | 0 => {
      c0 := let ⟨f, fd, F, g, b⟩ := T.f0; ⟨f, fd, _, g, F.kp, b, zeroF rfl⟩
      c1 := let ⟨f, fd, F, g, b⟩ := T.f1; ⟨f, fd, _, g, F.kp, b, zeroF rfl⟩
      c2 := let ⟨f, fd, F, g, b⟩ := T.f2; ⟨f, fd, _, g, F.kp, b, zeroF rfl⟩
      c3 := let ⟨f, fd, F, g, b⟩ := T.f3; ⟨f, fd, _, g, F.kp, b, zeroF rfl⟩
      c4 := let ⟨f, fd, F, g, b⟩ := T.f4; ⟨f, fd, _, g, F.kp, b, zeroG rfl⟩
      c5 := let ⟨f, fd, F, g, b⟩ := T.f5; ⟨f, fd, _, g, F.kp, b, zeroG rfl⟩
    }
  | n + 1 =>
    have I := all_n T n
    {
      c0 := let ⟨f, fd, F, g, b⟩ := T.f0; ⟨f, fd, _, g, F.kp, b, fn_ok (fn := c0) F s0 rfl rfl (by decide) (b0 T.bl)⟩
      c1 := let ⟨f, fd, F, g, b⟩ := T.f1; ⟨f, fd, _, g, F.kp, b, fn_ok (fn := c1) F s1 rfl rfl (by decide) (b1 T.bl)⟩
      c2 := let ⟨f, fd, F, g, b⟩ := T.f2; ⟨f, fd, _, g, F.kp, b, fn_ok (fn := c2) F s2 rfl rfl (by decide) (b2 T.bl I.c1)⟩
      c3 := let ⟨f, fd, F, g, b⟩ := T.f3; ⟨f, fd, _, g, F.kp, b, fn_ok (fn := c3) F s3 rfl rfl (by decide) (b3 T.bl T.ho_Circle T.ho_InvalidLineup T.ho_InvalidLot T.ho_InvalidNumber T.ho_InvalidOperation T.ho_InvalidOrder T.ho_NothingToUndo T.ho_OrderError T.ho_ParseError T.ho_Refused T.ho_TooMany T.ho_UnknownPlace T.hb_ArithmeticError T.hb_IndexError T.hb_KeyError T.hb_LookupError T.hb_OverflowError T.hb_RuntimeError T.hb_ValueError)⟩
      c4 := let ⟨f, fd, F, g, b⟩ := T.f4; ⟨f, fd, _, g, F.kp, b, fn_okG (fn := c4) F s4 rfl rfl (by decide) (b4 T.bl I.c2 I.c3 T.hx_Circle T.hx_InvalidLineup T.hx_InvalidLot T.hx_InvalidNumber T.hx_InvalidOperation T.hx_InvalidOrder T.hx_NothingToUndo T.hx_ParseError T.hx_Refused T.hx_TooMany T.hx_UnknownPlace T.hxa)⟩
      c5 := let ⟨f, fd, F, g, b⟩ := T.f5; ⟨f, fd, _, g, F.kp, b, fn_okG (fn := c5) F s5 rfl rfl (by decide) (b5 T.bl I.c0 I.c4 T.hx_ParseError T.hx_TooMany T.hxa)⟩
    }
end
def spLaw (K : PySem.W.Frag) : Sp := fun vs H Q _ => ∃ (a : Addr) (ns : List Int), vs = [.ref a] ∧ SqL K H a (ns.map V.int) ∧ ns.length ≤ 63 ∧ ∀ H', Q (.bl true) H'
set_option maxHeartbeats 4000000 in
theorem all_mk (hlaw : ∀ ns : List Int, ns.length ≤ 63 → ∃ ps', PV.run code 20 5 [.fz (.scr ns)] = .ok (.fz (.bl true)) ps') {l : PySem.W.OpenLaw} {w : World} {K : PySem.W.Frag} {h : Heap} {mg : Str → Option Value} {fa : Addr} (X : K.In h) (G : h.Ns mainGlobals mg) (hfa : mg "law" = some (.ref fa))
    {f0 : Addr} {od0 an0 : Option Addr} {sl0 : Array (Option Value)} {oc0 kV0 dc0 pm0 cd0 ct0 : Value}
    {f1 : Addr} {od1 an1 : Option Addr} {sl1 : Array (Option Value)} {oc1 kV1 dc1 pm1 cd1 ct1 : Value}
    {f2 : Addr} {od2 an2 : Option Addr} {sl2 : Array (Option Value)} {oc2 kV2 dc2 pm2 cd2 ct2 : Value}
    {f3 : Addr} {od3 an3 : Option Addr} {sl3 : Array (Option Value)} {oc3 kV3 dc3 pm3 cd3 ct3 : Value}
    {f4 : Addr} {od4 an4 : Option Addr} {sl4 : Array (Option Value)} {oc4 kV4 dc4 pm4 cd4 ct4 : Value}
    {f5 : Addr} {od5 an5 : Option Addr} {sl5 : Array (Option Value)} {oc5 kV5 dc5 pm5 cd5 ct5 : Value}
    {C2 : Addr}
    {C3 : Addr}
    {C4 : Addr}
    {C5 : Addr}
    {C6 : Addr}
    {C7 : Addr}
    {C8 : Addr}
    {C9 : Addr}
    {C10 : Addr}
    {C11 : Addr}
    {C12 : Addr}
    {C13 : Addr}
    (a0 : PySem.W.nsIn K mainGlobals "_law_dice" = some (some (.ref f0))) (l0 : K.lookup f0 = some ⟨oc0, od0, .func (PySem.W.fnOf "_law_dice" "_law_dice" (defArgs (topS 14)) (defBody (topS 14)) (defScope (topS 14)) .none kV0 dc0 pm0 an0 cd0 ct0), sl0⟩) (d0 : PySem.W.codeIn K cd0 "_law_dice" = true) (k0 : PySem.W.keepIn K (.ref f0) = true)
    (a1 : PySem.W.nsIn K mainGlobals "_law_roll" = some (some (.ref f1))) (l1 : K.lookup f1 = some ⟨oc1, od1, .func (PySem.W.fnOf "_law_roll" "_law_roll" (defArgs (topS 15)) (defBody (topS 15)) (defScope (topS 15)) .none kV1 dc1 pm1 an1 cd1 ct1), sl1⟩) (d1 : PySem.W.codeIn K cd1 "_law_roll" = true) (k1 : PySem.W.keepIn K (.ref f1) = true)
    (a2 : PySem.W.nsIn K mainGlobals "_law_one_of" = some (some (.ref f2))) (l2 : K.lookup f2 = some ⟨oc2, od2, .func (PySem.W.fnOf "_law_one_of" "_law_one_of" (defArgs (topS 16)) (defBody (topS 16)) (defScope (topS 16)) .none kV2 dc2 pm2 an2 cd2 ct2), sl2⟩) (d2 : PySem.W.codeIn K cd2 "_law_one_of" = true) (k2 : PySem.W.keepIn K (.ref f2) = true)
    (a3 : PySem.W.nsIn K mainGlobals "_law_kinds" = some (some (.ref f3))) (l3 : K.lookup f3 = some ⟨oc3, od3, .func (PySem.W.fnOf "_law_kinds" "_law_kinds" (defArgs (topS 17)) (defBody (topS 17)) (defScope (topS 17)) .none kV3 dc3 pm3 an3 cd3 ct3), sl3⟩) (d3 : PySem.W.codeIn K cd3 "_law_kinds" = true) (k3 : PySem.W.keepIn K (.ref f3) = true)
    (a4 : PySem.W.nsIn K mainGlobals "_law_right" = some (some (.ref f4))) (l4 : K.lookup f4 = some ⟨oc4, od4, .func (PySem.W.fnOf "_law_right" "_law_right" (defArgs (topS 18)) (defBody (topS 18)) (defScope (topS 18)) .none kV4 dc4 pm4 an4 cd4 ct4), sl4⟩) (d4 : PySem.W.codeIn K cd4 "_law_right" = true) (k4 : PySem.W.keepIn K (.ref f4) = true)
    (a5 : PySem.W.nsIn K mainGlobals "law" = some (some (.ref f5))) (l5 : K.lookup f5 = some ⟨oc5, od5, .func (PySem.W.fnOf "law" "law" (defArgs (topS 19)) (defBody (topS 19)) (defScope (topS 19)) .none kV5 dc5 pm5 an5 cd5 ct5), sl5⟩) (d5 : PySem.W.codeIn K cd5 "law" = true) (k5 : PySem.W.keepIn K (.ref f5) = true)
    (z_ArithmeticError : PySem.W.nsIn K mainGlobals "ArithmeticError" = some none)
    (z_IndexError : PySem.W.nsIn K mainGlobals "IndexError" = some none)
    (z_KeyError : PySem.W.nsIn K mainGlobals "KeyError" = some none)
    (z_LookupError : PySem.W.nsIn K mainGlobals "LookupError" = some none)
    (z_OverflowError : PySem.W.nsIn K mainGlobals "OverflowError" = some none)
    (z_RuntimeError : PySem.W.nsIn K mainGlobals "RuntimeError" = some none)
    (z_ValueError : PySem.W.nsIn K mainGlobals "ValueError" = some none)
    (z_abs : PySem.W.nsIn K mainGlobals "abs" = some none)
    (z_int : PySem.W.nsIn K mainGlobals "int" = some none)
    (z_isinstance : PySem.W.nsIn K mainGlobals "isinstance" = some none)
    (z_len : PySem.W.nsIn K mainGlobals "len" = some none)
    (z_max : PySem.W.nsIn K mainGlobals "max" = some none)
    (z_min : PySem.W.nsIn K mainGlobals "min" = some none)
    (z_range : PySem.W.nsIn K mainGlobals "range" = some none)
    (z_repr : PySem.W.nsIn K mainGlobals "repr" = some none)
    (aC2 : PySem.W.nsIn K mainGlobals "OrderError" = some (some (.ref C2))) (kC2 : PySem.W.keepIn K (.ref C2) = true)
    (aC3 : PySem.W.nsIn K mainGlobals "InvalidOrder" = some (some (.ref C3))) (kC3 : PySem.W.keepIn K (.ref C3) = true)
    (aC4 : PySem.W.nsIn K mainGlobals "InvalidLot" = some (some (.ref C4))) (kC4 : PySem.W.keepIn K (.ref C4) = true)
    (aC5 : PySem.W.nsIn K mainGlobals "InvalidLineup" = some (some (.ref C5))) (kC5 : PySem.W.keepIn K (.ref C5) = true)
    (aC6 : PySem.W.nsIn K mainGlobals "InvalidOperation" = some (some (.ref C6))) (kC6 : PySem.W.keepIn K (.ref C6) = true)
    (aC7 : PySem.W.nsIn K mainGlobals "ParseError" = some (some (.ref C7))) (kC7 : PySem.W.keepIn K (.ref C7) = true)
    (aC8 : PySem.W.nsIn K mainGlobals "UnknownPlace" = some (some (.ref C8))) (kC8 : PySem.W.keepIn K (.ref C8) = true)
    (aC9 : PySem.W.nsIn K mainGlobals "InvalidNumber" = some (some (.ref C9))) (kC9 : PySem.W.keepIn K (.ref C9) = true)
    (aC10 : PySem.W.nsIn K mainGlobals "Circle" = some (some (.ref C10))) (kC10 : PySem.W.keepIn K (.ref C10) = true)
    (aC11 : PySem.W.nsIn K mainGlobals "TooMany" = some (some (.ref C11))) (kC11 : PySem.W.keepIn K (.ref C11) = true)
    (aC12 : PySem.W.nsIn K mainGlobals "NothingToUndo" = some (some (.ref C12))) (kC12 : PySem.W.keepIn K (.ref C12) = true)
    (aC13 : PySem.W.nsIn K mainGlobals "Refused" = some (some (.ref C13))) (kC13 : PySem.W.keepIn K (.ref C13) = true)
    (mk10 : XIc l.prog K mg C10 "circle")
    (mk5 : XPc K C5)
    (mk4 : XPc K C4)
    (mk9 : XIc l.prog K mg C9 "value")
    (mk6 : XPc K C6)
    (mk3 : XPc K C3)
    (mk12 : XIc l.prog K mg C12 "many")
    (mk7 : XIc l.prog K mg C7 "line")
    (mk13 : XIc l.prog K mg C13 "reason")
    (mk11 : XIc l.prog K mg C11 "limit")
    (mk8 : XIc l.prog K mg C8 "place")
    (xall : xallB K [(2, C2), (3, C3), (4, C4), (5, C5), (6, C6), (7, C7), (8, C8), (9, C9), (10, C10), (11, C11), (12, C12), (13, C13)] = true)
    (ox_Circle : isxB K [(2, C2), (3, C3), (4, C4), (5, C5), (6, C6), (7, C7), (8, C8), (9, C9), (10, C10), (11, C11), (12, C12), (13, C13)] "Circle" (.ref C10) = true)
    (ox_InvalidLineup : isxB K [(2, C2), (3, C3), (4, C4), (5, C5), (6, C6), (7, C7), (8, C8), (9, C9), (10, C10), (11, C11), (12, C12), (13, C13)] "InvalidLineup" (.ref C5) = true)
    (ox_InvalidLot : isxB K [(2, C2), (3, C3), (4, C4), (5, C5), (6, C6), (7, C7), (8, C8), (9, C9), (10, C10), (11, C11), (12, C12), (13, C13)] "InvalidLot" (.ref C4) = true)
    (ox_InvalidNumber : isxB K [(2, C2), (3, C3), (4, C4), (5, C5), (6, C6), (7, C7), (8, C8), (9, C9), (10, C10), (11, C11), (12, C12), (13, C13)] "InvalidNumber" (.ref C9) = true)
    (ox_InvalidOperation : isxB K [(2, C2), (3, C3), (4, C4), (5, C5), (6, C6), (7, C7), (8, C8), (9, C9), (10, C10), (11, C11), (12, C12), (13, C13)] "InvalidOperation" (.ref C6) = true)
    (ox_InvalidOrder : isxB K [(2, C2), (3, C3), (4, C4), (5, C5), (6, C6), (7, C7), (8, C8), (9, C9), (10, C10), (11, C11), (12, C12), (13, C13)] "InvalidOrder" (.ref C3) = true)
    (ox_NothingToUndo : isxB K [(2, C2), (3, C3), (4, C4), (5, C5), (6, C6), (7, C7), (8, C8), (9, C9), (10, C10), (11, C11), (12, C12), (13, C13)] "NothingToUndo" (.ref C12) = true)
    (ox_OrderError : isxB K [(2, C2), (3, C3), (4, C4), (5, C5), (6, C6), (7, C7), (8, C8), (9, C9), (10, C10), (11, C11), (12, C12), (13, C13)] "OrderError" (.ref C2) = true)
    (ox_ParseError : isxB K [(2, C2), (3, C3), (4, C4), (5, C5), (6, C6), (7, C7), (8, C8), (9, C9), (10, C10), (11, C11), (12, C12), (13, C13)] "ParseError" (.ref C7) = true)
    (ox_Refused : isxB K [(2, C2), (3, C3), (4, C4), (5, C5), (6, C6), (7, C7), (8, C8), (9, C9), (10, C10), (11, C11), (12, C12), (13, C13)] "Refused" (.ref C13) = true)
    (ox_TooMany : isxB K [(2, C2), (3, C3), (4, C4), (5, C5), (6, C6), (7, C7), (8, C8), (9, C9), (10, C10), (11, C11), (12, C12), (13, C13)] "TooMany" (.ref C11) = true)
    (ox_UnknownPlace : isxB K [(2, C2), (3, C3), (4, C4), (5, C5), (6, C6), (7, C7), (8, C8), (9, C9), (10, C10), (11, C11), (12, C12), (13, C13)] "UnknownPlace" (.ref C8) = true)
    (bx_ArithmeticError : isxB K [(2, C2), (3, C3), (4, C4), (5, C5), (6, C6), (7, C7), (8, C8), (9, C9), (10, C10), (11, C11), (12, C12), (13, C13)] "ArithmeticError" (.type "ArithmeticError") = true)
    (bx_IndexError : isxB K [(2, C2), (3, C3), (4, C4), (5, C5), (6, C6), (7, C7), (8, C8), (9, C9), (10, C10), (11, C11), (12, C12), (13, C13)] "IndexError" (.type "IndexError") = true)
    (bx_KeyError : isxB K [(2, C2), (3, C3), (4, C4), (5, C5), (6, C6), (7, C7), (8, C8), (9, C9), (10, C10), (11, C11), (12, C12), (13, C13)] "KeyError" (.type "KeyError") = true)
    (bx_LookupError : isxB K [(2, C2), (3, C3), (4, C4), (5, C5), (6, C6), (7, C7), (8, C8), (9, C9), (10, C10), (11, C11), (12, C12), (13, C13)] "LookupError" (.type "LookupError") = true)
    (bx_OverflowError : isxB K [(2, C2), (3, C3), (4, C4), (5, C5), (6, C6), (7, C7), (8, C8), (9, C9), (10, C10), (11, C11), (12, C12), (13, C13)] "OverflowError" (.type "OverflowError") = true)
    (bx_RuntimeError : isxB K [(2, C2), (3, C3), (4, C4), (5, C5), (6, C6), (7, C7), (8, C8), (9, C9), (10, C10), (11, C11), (12, C12), (13, C13)] "RuntimeError" (.type "RuntimeError") = true)
    (bx_ValueError : isxB K [(2, C2), (3, C3), (4, C4), (5, C5), (6, C6), (7, C7), (8, C8), (9, C9), (10, C10), (11, C11), (12, C12), (13, C13)] "ValueError" (.type "ValueError") = true)
    : ∃ fd : FuncData, (∀ (s : Shared) (v : Value), BindsTo s fd ⟨[v], []⟩ [("_law_script", v)]) ∧ ∀ base : Heap, FnG l.prog w K mg base 20 fa fd ["_law_script"] (spLaw K) := by
  have e := hfa.symm.trans (PySem.W.mg_of X G a5)
  cases e
  have hk : XKnown mg [(2, C2), (3, C3), (4, C4), (5, C5), (6, C6), (7, C7), (8, C8), (9, C9), (10, C10), (11, C11), (12, C12), (13, C13)] := by
    refine xknown_of (fun p hp => ?_) fun c hc => ?_
    · simp only [List.mem_cons, List.not_mem_nil, or_false] at hp
      rcases hp with rfl | rfl | rfl | rfl | rfl | rfl | rfl | rfl | rfl | rfl | rfl | rfl
      · intro ci z; cases z; exact PySem.W.mg_of X G aC2
      · intro ci z; cases z; exact PySem.W.mg_of X G aC3
      · intro ci z; cases z; exact PySem.W.mg_of X G aC4
      · intro ci z; cases z; exact PySem.W.mg_of X G aC5
      · intro ci z; cases z; exact PySem.W.mg_of X G aC6
      · intro ci z; cases z; exact PySem.W.mg_of X G aC7
      · intro ci z; cases z; exact PySem.W.mg_of X G aC8
      · intro ci z; cases z; exact PySem.W.mg_of X G aC9
      · intro ci z; cases z; exact PySem.W.mg_of X G aC10
      · intro ci z; cases z; exact PySem.W.mg_of X G aC11
      · intro ci z; cases z; exact PySem.W.mg_of X G aC12
      · intro ci z; cases z; exact PySem.W.mg_of X G aC13
    · have hc2 : c < 14 := hc
      have : c = 0 ∨ c = 1 ∨ c = 2 ∨ c = 3 ∨ c = 4 ∨ c = 5 ∨ c = 6 ∨ c = 7 ∨ c = 8 ∨ c = 9 ∨ c = 10 ∨ c = 11 ∨ c = 12 ∨ c = 13 := by omega
      rcases this with rfl | rfl | rfl | rfl | rfl | rfl | rfl | rfl | rfl | rfl | rfl | rfl | rfl | rfl
      · exact .inr (.inl ⟨_, rfl, rfl⟩)
      · exact .inr (.inl ⟨_, rfl, rfl⟩)
      · exact .inr (.inr ⟨C2, by simp⟩)
      · exact .inr (.inr ⟨C3, by simp⟩)
      · exact .inr (.inr ⟨C4, by simp⟩)
      · exact .inr (.inr ⟨C5, by simp⟩)
      · exact .inr (.inr ⟨C6, by simp⟩)
      · exact .inr (.inr ⟨C7, by simp⟩)
      · exact .inr (.inr ⟨C8, by simp⟩)
      · exact .inr (.inr ⟨C9, by simp⟩)
      · exact .inr (.inr ⟨C10, by simp⟩)
      · exact .inr (.inr ⟨C11, by simp⟩)
      · exact .inr (.inr ⟨C12, by simp⟩)
      · exact .inr (.inr ⟨C13, by simp⟩)
  have T : Hd l.prog K mg := {
    bl := by
      intro x hx
      simp only [bltN, List.mem_cons, List.not_mem_nil, or_false] at hx
      rcases hx with rfl | rfl | rfl | rfl | rfl | rfl | rfl | rfl | rfl | rfl | rfl | rfl | rfl | rfl | rfl
      · exact PySem.W.mg_none_of X G z_ArithmeticError
      · exact PySem.W.mg_none_of X G z_IndexError
      · exact PySem.W.mg_none_of X G z_KeyError
      · exact PySem.W.mg_none_of X G z_LookupError
      · exact PySem.W.mg_none_of X G z_OverflowError
      · exact PySem.W.mg_none_of X G z_RuntimeError
      · exact PySem.W.mg_none_of X G z_ValueError
      · exact PySem.W.mg_none_of X G z_abs
      · exact PySem.W.mg_none_of X G z_int
      · exact PySem.W.mg_none_of X G z_isinstance
      · exact PySem.W.mg_none_of X G z_len
      · exact PySem.W.mg_none_of X G z_max
      · exact PySem.W.mg_none_of X G z_min
      · exact PySem.W.mg_none_of X G z_range
      · exact PySem.W.mg_none_of X G z_repr
    f0 := ⟨_, _, fun_mk (st := topS 14) l0 d0 k0, PySem.W.mg_of X G a0, (fun_mk (st := topS 14) l0 d0 k0).binds fun _ _ _ _ _ _ us hl => match us, hl with | [_, _], _ => rfl⟩
    f1 := ⟨_, _, fun_mk (st := topS 15) l1 d1 k1, PySem.W.mg_of X G a1, (fun_mk (st := topS 15) l1 d1 k1).binds fun _ _ _ _ _ _ us hl => match us, hl with | [_, _], _ => rfl⟩
    f2 := ⟨_, _, fun_mk (st := topS 16) l2 d2 k2, PySem.W.mg_of X G a2, (fun_mk (st := topS 16) l2 d2 k2).binds fun _ _ _ _ _ _ us hl => match us, hl with | [_, _], _ => rfl⟩
    f3 := ⟨_, _, fun_mk (st := topS 17) l3 d3 k3, PySem.W.mg_of X G a3, (fun_mk (st := topS 17) l3 d3 k3).binds fun _ _ _ _ _ _ us hl => match us, hl with | [_], _ => rfl⟩
    f4 := ⟨_, _, fun_mk (st := topS 18) l4 d4 k4, PySem.W.mg_of X G a4, (fun_mk (st := topS 18) l4 d4 k4).binds fun _ _ _ _ _ _ us hl => match us, hl with | [_], _ => rfl⟩
    f5 := ⟨_, _, fun_mk (st := topS 19) l5 d5 k5, PySem.W.mg_of X G a5, (fun_mk (st := topS 19) l5 d5 k5).binds fun _ _ _ _ _ _ us hl => match us, hl with | [_], _ => rfl⟩
    hx_Circle := ⟨⟨C10, PySem.W.mg_of X G aC10, kC10, .inr ⟨_, rfl, mk10⟩⟩⟩
    hx_InvalidLineup := ⟨⟨C5, PySem.W.mg_of X G aC5, kC5, .inl ⟨rfl, mk5⟩⟩⟩
    hx_InvalidLot := ⟨⟨C4, PySem.W.mg_of X G aC4, kC4, .inl ⟨rfl, mk4⟩⟩⟩
    hx_InvalidNumber := ⟨⟨C9, PySem.W.mg_of X G aC9, kC9, .inr ⟨_, rfl, mk9⟩⟩⟩
    hx_InvalidOperation := ⟨⟨C6, PySem.W.mg_of X G aC6, kC6, .inl ⟨rfl, mk6⟩⟩⟩
    hx_InvalidOrder := ⟨⟨C3, PySem.W.mg_of X G aC3, kC3, .inl ⟨rfl, mk3⟩⟩⟩
    hx_NothingToUndo := ⟨⟨C12, PySem.W.mg_of X G aC12, kC12, .inr ⟨_, rfl, mk12⟩⟩⟩
    hx_ParseError := ⟨⟨C7, PySem.W.mg_of X G aC7, kC7, .inr ⟨_, rfl, mk7⟩⟩⟩
    hx_Refused := ⟨⟨C13, PySem.W.mg_of X G aC13, kC13, .inr ⟨_, rfl, mk13⟩⟩⟩
    hx_TooMany := ⟨⟨C11, PySem.W.mg_of X G aC11, kC11, .inr ⟨_, rfl, mk11⟩⟩⟩
    hx_UnknownPlace := ⟨⟨C8, PySem.W.mg_of X G aC8, kC8, .inr ⟨_, rfl, mk8⟩⟩⟩
    ho_Circle := ⟨⟨C10, PySem.W.mg_of X G aC10, isx_ok hk xall ox_Circle⟩⟩
    ho_InvalidLineup := ⟨⟨C5, PySem.W.mg_of X G aC5, isx_ok hk xall ox_InvalidLineup⟩⟩
    ho_InvalidLot := ⟨⟨C4, PySem.W.mg_of X G aC4, isx_ok hk xall ox_InvalidLot⟩⟩
    ho_InvalidNumber := ⟨⟨C9, PySem.W.mg_of X G aC9, isx_ok hk xall ox_InvalidNumber⟩⟩
    ho_InvalidOperation := ⟨⟨C6, PySem.W.mg_of X G aC6, isx_ok hk xall ox_InvalidOperation⟩⟩
    ho_InvalidOrder := ⟨⟨C3, PySem.W.mg_of X G aC3, isx_ok hk xall ox_InvalidOrder⟩⟩
    ho_NothingToUndo := ⟨⟨C12, PySem.W.mg_of X G aC12, isx_ok hk xall ox_NothingToUndo⟩⟩
    ho_OrderError := ⟨⟨C2, PySem.W.mg_of X G aC2, isx_ok hk xall ox_OrderError⟩⟩
    ho_ParseError := ⟨⟨C7, PySem.W.mg_of X G aC7, isx_ok hk xall ox_ParseError⟩⟩
    ho_Refused := ⟨⟨C13, PySem.W.mg_of X G aC13, isx_ok hk xall ox_Refused⟩⟩
    ho_TooMany := ⟨⟨C11, PySem.W.mg_of X G aC11, isx_ok hk xall ox_TooMany⟩⟩
    ho_UnknownPlace := ⟨⟨C8, PySem.W.mg_of X G aC8, isx_ok hk xall ox_UnknownPlace⟩⟩
    hb_ArithmeticError := isx_ok hk xall bx_ArithmeticError
    hb_IndexError := isx_ok hk xall bx_IndexError
    hb_KeyError := isx_ok hk xall bx_KeyError
    hb_LookupError := isx_ok hk xall bx_LookupError
    hb_OverflowError := isx_ok hk xall bx_OverflowError
    hb_RuntimeError := isx_ok hk xall bx_RuntimeError
    hb_ValueError := isx_ok hk xall bx_ValueError
    hxa := ⟨_, hk, xall⟩
  }
  refine ⟨PySem.W.fnOf "law" "law" (defArgs (topS 19)) (defBody (topS 19)) (defScope (topS 19)) .none kV5 dc5 pm5 an5 cd5 ct5, fun s v => .of_eq rfl, fun base => ?_⟩
  have I := all_n (P := l.prog) (w := w) (base := base) T 19
  refine (fn_okG (fn := c5) (fun_mk (st := topS 19) l5 d5 k5) s5 rfl rfl (by decide) (b5 T.bl I.c0 I.c4 T.hx_ParseError T.hx_TooMany T.hxa)).imp fun vs H Q E h => ?_
  obtain ⟨a, ns, rfl, hS, hl, q⟩ := h
  obtain ⟨ps', hp⟩ := hlaw ns hl
  refine ⟨rfl, H, [.fz (.scr ns)], _, ps', ⟨Same.refl H, rfl, fun i => ?_, fun i j p x y => by obtain ⟨_, ⟨_, z⟩, _⟩ := one_sl x; cases z⟩, hp, fun v F' H' c => ?_⟩
  · cases i with
    | zero => exact ⟨_, rfl, a, rfl, hS⟩
    | succ i => trivial
  · rw [show v = V.bl true from c.val]
    exact q _
end K00
open PySem PySem.W PyProof.Rows
set_option maxHeartbeats 0 in
theorem PySem.Challenge.cw_downsets_k00_errors_and_what_they_keep_holds : PySem.Challenge.rw_downsets_k00_errors_and_what_they_keep.Holds := by
  w_on; o_law; k_head; (case hw => w_witness2)
  k_fill
  refine PV.walkG (l := PySem.Challenge.rw_downsets_k00_errors_and_what_they_keep) (n := 63) (k := 20) (x := "_law_script") (sp := fun w => K00.spLaw _) rfl (by decide) rfl ⟨rfl, by decide, by decide⟩ (fun w h Y => PySem.W.kIn_of Y) ?F (fun _ _ a ns hl _ hS => ⟨a, ns, rfl, hS, hl, fun _ => rfl⟩)
  case F =>
    intro w mg fa h KX G hmg
    refine' K00.all_mk K00.law_true KX G hmg ?a0 ?l0 ?d0 ?k0 ?a1 ?l1 ?d1 ?k1 ?a2 ?l2 ?d2 ?k2 ?a3 ?l3 ?d3 ?k3 ?a4 ?l4 ?d4 ?k4 ?a5 ?l5 ?d5 ?k5 ?z_ArithmeticError ?z_IndexError ?z_KeyError ?z_LookupError ?z_OverflowError ?z_RuntimeError ?z_ValueError ?z_abs ?z_int ?z_isinstance ?z_len ?z_max ?z_min ?z_range ?z_repr ?aC2 ?kC2 ?aC3 ?kC3 ?aC4 ?kC4 ?aC5 ?kC5 ?aC6 ?kC6 ?aC7 ?kC7 ?aC8 ?kC8 ?aC9 ?kC9 ?aC10 ?kC10 ?aC11 ?kC11 ?aC12 ?kC12 ?aC13 ?kC13 ?mk10 ?mk5 ?mk4 ?mk9 ?mk6 ?mk3 ?mk12 ?mk7 ?mk13 ?mk11 ?mk8 ?xall ?ox_Circle ?ox_InvalidLineup ?ox_InvalidLot ?ox_InvalidNumber ?ox_InvalidOperation ?ox_InvalidOrder ?ox_NothingToUndo ?ox_OrderError ?ox_ParseError ?ox_Refused ?ox_TooMany ?ox_UnknownPlace ?bx_ArithmeticError ?bx_IndexError ?bx_KeyError ?bx_LookupError ?bx_OverflowError ?bx_RuntimeError ?bx_ValueError
    (case a0 => k_is)
    (case l0 => k_is)
    (case d0 => k_is)
    (case k0 => k_is)
    (case a1 => k_is)
    (case l1 => k_is)
    (case d1 => k_is)
    (case k1 => k_is)
    (case a2 => k_is)
    (case l2 => k_is)
    (case d2 => k_is)
    (case k2 => k_is)
    (case a3 => k_is)
    (case l3 => k_is)
    (case d3 => k_is)
    (case k3 => k_is)
    (case a4 => k_is)
    (case l4 => k_is)
    (case d4 => k_is)
    (case k4 => k_is)
    (case a5 => k_is)
    (case l5 => k_is)
    (case d5 => k_is)
    (case k5 => k_is)
    (case z_ArithmeticError => k_is)
    (case z_IndexError => k_is)
    (case z_KeyError => k_is)
    (case z_LookupError => k_is)
    (case z_OverflowError => k_is)
    (case z_RuntimeError => k_is)
    (case z_ValueError => k_is)
    (case z_abs => k_is)
    (case z_int => k_is)
    (case z_isinstance => k_is)
    (case z_len => k_is)
    (case z_max => k_is)
    (case z_min => k_is)
    (case z_range => k_is)
    (case z_repr => k_is)
    (case aC2 => k_is)
    (case kC2 => k_is)
    (case aC3 => k_is)
    (case kC3 => k_is)
    (case aC4 => k_is)
    (case kC4 => k_is)
    (case aC5 => k_is)
    (case kC5 => k_is)
    (case aC6 => k_is)
    (case kC6 => k_is)
    (case aC7 => k_is)
    (case kC7 => k_is)
    (case aC8 => k_is)
    (case kC8 => k_is)
    (case aC9 => k_is)
    (case kC9 => k_is)
    (case aC10 => k_is)
    (case kC10 => k_is)
    (case aC11 => k_is)
    (case kC11 => k_is)
    (case aC12 => k_is)
    (case kC12 => k_is)
    (case aC13 => k_is)
    (case kC13 => k_is)
    (case mk10 =>
      refine' PV.xic_mk PySem.F.excBase_LookupError ?hBn ?hAt ?hNm (PV.InitF.of PySem.F.excBase_LookupError.toExcCallFacts) PySem.W.kxs_LookupError PySem.F.store_LookupError ?iC ?tI ?qi ?qo ?sa ?hd ?hno ?hB ?hCC ?ho ?hsu ?lk ?hcd ?hpar ?har ?hcode ?hvs ?hfile ?hcell ?hks ?hkc ?hka ?hkx ?hk ?hnc ?hco ?hgen ?hmg ?htop ?hev ?hsx ?hdx ?hds ?hbind
      (case hBn => decide +kernel)
      (case hAt => decide +kernel)
      (case hNm => decide +kernel)
      (case iC => k_is)
      (case tI => k_is)
      (case qi => kernel_rfl)
      (case qo => kernel_rfl)
      (case sa => k_is)
      (case hd => k_is)
      (case hno => k_is)
      (case hB => k_is)
      (case hCC => k_is)
      (case ho => k_is)
      (case hsu => kernel_rfl)
      (case lk => k_is)
      (case hcd => k_is)
      (case hpar => first | rfl | kernel_rfl)
      (case har => first | rfl | kernel_rfl)
      (case hcode => k_is)
      (case hvs => first | rfl | kernel_rfl)
      (case hfile => kernel_rfl)
      (case hcell => k_is)
      (case hks => first | rfl | kernel_rfl)
      (case hkc => first | rfl | kernel_rfl)
      (case hka => first | rfl | kernel_rfl)
      (case hkx => first | rfl | kernel_rfl)
      (case hk => first | rfl | kernel_rfl)
      (case hnc => decide +kernel)
      (case hco => first | rfl | kernel_rfl)
      (case hgen => first | rfl | kernel_rfl)
      (case hmg => exact PySem.W.mg_none_of KX G (by k_is))
      (case htop => kernel_rfl)
      (case hev => intro L; exact ⟨rfl, rfl, rfl, rfl, _, rfl⟩)
      (case hsx => decide +kernel)
      (case hdx => first | rfl | kernel_rfl)
      (case hds => first | rfl | kernel_rfl)
      (case hbind => intro s e u; exact .of_eq rfl))
    (case mk5 => exact ⟨⟨"ValueError", "ValueError.__new__", "ValueError.__init__", _, PySem.F.excBase_ValueError, by k_is, by kernel_rfl⟩⟩)
    (case mk4 => exact ⟨⟨"ValueError", "ValueError.__new__", "ValueError.__init__", _, PySem.F.excBase_ValueError, by k_is, by kernel_rfl⟩⟩)
    (case mk9 =>
      refine' PV.xic_mk PySem.F.excBase_ArithmeticError ?hBn ?hAt ?hNm (PV.InitF.of PySem.F.excBase_ArithmeticError.toExcCallFacts) PySem.W.kxs_ArithmeticError PySem.F.store_ArithmeticError ?iC ?tI ?qi ?qo ?sa ?hd ?hno ?hB ?hCC ?ho ?hsu ?lk ?hcd ?hpar ?har ?hcode ?hvs ?hfile ?hcell ?hks ?hkc ?hka ?hkx ?hk ?hnc ?hco ?hgen ?hmg ?htop ?hev ?hsx ?hdx ?hds ?hbind
      (case hBn => decide +kernel)
      (case hAt => decide +kernel)
      (case hNm => decide +kernel)
      (case iC => k_is)
      (case tI => k_is)
      (case qi => kernel_rfl)
      (case qo => kernel_rfl)
      (case sa => k_is)
      (case hd => k_is)
      (case hno => k_is)
      (case hB => k_is)
      (case hCC => k_is)
      (case ho => k_is)
      (case hsu => kernel_rfl)
      (case lk => k_is)
      (case hcd => k_is)
      (case hpar => first | rfl | kernel_rfl)
      (case har => first | rfl | kernel_rfl)
      (case hcode => k_is)
      (case hvs => first | rfl | kernel_rfl)
      (case hfile => kernel_rfl)
      (case hcell => k_is)
      (case hks => first | rfl | kernel_rfl)
      (case hkc => first | rfl | kernel_rfl)
      (case hka => first | rfl | kernel_rfl)
      (case hkx => first | rfl | kernel_rfl)
      (case hk => first | rfl | kernel_rfl)
      (case hnc => decide +kernel)
      (case hco => first | rfl | kernel_rfl)
      (case hgen => first | rfl | kernel_rfl)
      (case hmg => exact PySem.W.mg_none_of KX G (by k_is))
      (case htop => kernel_rfl)
      (case hev => intro L; exact ⟨rfl, rfl, rfl, rfl, _, rfl⟩)
      (case hsx => decide +kernel)
      (case hdx => first | rfl | kernel_rfl)
      (case hds => first | rfl | kernel_rfl)
      (case hbind => intro s e u; exact .of_eq rfl))
    (case mk6 => exact ⟨⟨"ValueError", "ValueError.__new__", "ValueError.__init__", _, PySem.F.excBase_ValueError, by k_is, by kernel_rfl⟩⟩)
    (case mk3 => exact ⟨⟨"ValueError", "ValueError.__new__", "ValueError.__init__", _, PySem.F.excBase_ValueError, by k_is, by kernel_rfl⟩⟩)
    (case mk12 =>
      refine' PV.xic_mk PySem.F.excBase_IndexError ?hBn ?hAt ?hNm (PV.InitF.of PySem.F.excBase_IndexError.toExcCallFacts) PySem.W.kxs_IndexError PySem.F.store_IndexError ?iC ?tI ?qi ?qo ?sa ?hd ?hno ?hB ?hCC ?ho ?hsu ?lk ?hcd ?hpar ?har ?hcode ?hvs ?hfile ?hcell ?hks ?hkc ?hka ?hkx ?hk ?hnc ?hco ?hgen ?hmg ?htop ?hev ?hsx ?hdx ?hds ?hbind
      (case hBn => decide +kernel)
      (case hAt => decide +kernel)
      (case hNm => decide +kernel)
      (case iC => k_is)
      (case tI => k_is)
      (case qi => kernel_rfl)
      (case qo => kernel_rfl)
      (case sa => k_is)
      (case hd => k_is)
      (case hno => k_is)
      (case hB => k_is)
      (case hCC => k_is)
      (case ho => k_is)
      (case hsu => kernel_rfl)
      (case lk => k_is)
      (case hcd => k_is)
      (case hpar => first | rfl | kernel_rfl)
      (case har => first | rfl | kernel_rfl)
      (case hcode => k_is)
      (case hvs => first | rfl | kernel_rfl)
      (case hfile => kernel_rfl)
      (case hcell => k_is)
      (case hks => first | rfl | kernel_rfl)
      (case hkc => first | rfl | kernel_rfl)
      (case hka => first | rfl | kernel_rfl)
      (case hkx => first | rfl | kernel_rfl)
      (case hk => first | rfl | kernel_rfl)
      (case hnc => decide +kernel)
      (case hco => first | rfl | kernel_rfl)
      (case hgen => first | rfl | kernel_rfl)
      (case hmg => exact PySem.W.mg_none_of KX G (by k_is))
      (case htop => kernel_rfl)
      (case hev => intro L; exact ⟨rfl, rfl, rfl, rfl, _, rfl⟩)
      (case hsx => decide +kernel)
      (case hdx => first | rfl | kernel_rfl)
      (case hds => first | rfl | kernel_rfl)
      (case hbind => intro s e u; exact .of_eq rfl))
    (case mk7 =>
      refine' PV.xic_mk PySem.F.excBase_ValueError ?hBn ?hAt ?hNm (PV.InitF.of PySem.F.excBase_ValueError.toExcCallFacts) PySem.W.kxs_ValueError PySem.F.store_ValueError ?iC ?tI ?qi ?qo ?sa ?hd ?hno ?hB ?hCC ?ho ?hsu ?lk ?hcd ?hpar ?har ?hcode ?hvs ?hfile ?hcell ?hks ?hkc ?hka ?hkx ?hk ?hnc ?hco ?hgen ?hmg ?htop ?hev ?hsx ?hdx ?hds ?hbind
      (case hBn => decide +kernel)
      (case hAt => decide +kernel)
      (case hNm => decide +kernel)
      (case iC => k_is)
      (case tI => k_is)
      (case qi => kernel_rfl)
      (case qo => kernel_rfl)
      (case sa => k_is)
      (case hd => k_is)
      (case hno => k_is)
      (case hB => k_is)
      (case hCC => k_is)
      (case ho => k_is)
      (case hsu => kernel_rfl)
      (case lk => k_is)
      (case hcd => k_is)
      (case hpar => first | rfl | kernel_rfl)
      (case har => first | rfl | kernel_rfl)
      (case hcode => k_is)
      (case hvs => first | rfl | kernel_rfl)
      (case hfile => kernel_rfl)
      (case hcell => k_is)
      (case hks => first | rfl | kernel_rfl)
      (case hkc => first | rfl | kernel_rfl)
      (case hka => first | rfl | kernel_rfl)
      (case hkx => first | rfl | kernel_rfl)
      (case hk => first | rfl | kernel_rfl)
      (case hnc => decide +kernel)
      (case hco => first | rfl | kernel_rfl)
      (case hgen => first | rfl | kernel_rfl)
      (case hmg => exact PySem.W.mg_none_of KX G (by k_is))
      (case htop => kernel_rfl)
      (case hev => intro L; exact ⟨rfl, rfl, rfl, rfl, _, rfl⟩)
      (case hsx => decide +kernel)
      (case hdx => first | rfl | kernel_rfl)
      (case hds => first | rfl | kernel_rfl)
      (case hbind => intro s e u; exact .of_eq rfl))
    (case mk13 =>
      refine' PV.xic_mk PySem.F.excBase_RuntimeError ?hBn ?hAt ?hNm (PV.InitF.of PySem.F.excBase_RuntimeError.toExcCallFacts) PySem.W.kxs_RuntimeError PySem.F.store_RuntimeError ?iC ?tI ?qi ?qo ?sa ?hd ?hno ?hB ?hCC ?ho ?hsu ?lk ?hcd ?hpar ?har ?hcode ?hvs ?hfile ?hcell ?hks ?hkc ?hka ?hkx ?hk ?hnc ?hco ?hgen ?hmg ?htop ?hev ?hsx ?hdx ?hds ?hbind
      (case hBn => decide +kernel)
      (case hAt => decide +kernel)
      (case hNm => decide +kernel)
      (case iC => k_is)
      (case tI => k_is)
      (case qi => kernel_rfl)
      (case qo => kernel_rfl)
      (case sa => k_is)
      (case hd => k_is)
      (case hno => k_is)
      (case hB => k_is)
      (case hCC => k_is)
      (case ho => k_is)
      (case hsu => kernel_rfl)
      (case lk => k_is)
      (case hcd => k_is)
      (case hpar => first | rfl | kernel_rfl)
      (case har => first | rfl | kernel_rfl)
      (case hcode => k_is)
      (case hvs => first | rfl | kernel_rfl)
      (case hfile => kernel_rfl)
      (case hcell => k_is)
      (case hks => first | rfl | kernel_rfl)
      (case hkc => first | rfl | kernel_rfl)
      (case hka => first | rfl | kernel_rfl)
      (case hkx => first | rfl | kernel_rfl)
      (case hk => first | rfl | kernel_rfl)
      (case hnc => decide +kernel)
      (case hco => first | rfl | kernel_rfl)
      (case hgen => first | rfl | kernel_rfl)
      (case hmg => exact PySem.W.mg_none_of KX G (by k_is))
      (case htop => kernel_rfl)
      (case hev => intro L; exact ⟨rfl, rfl, rfl, rfl, _, rfl⟩)
      (case hsx => decide +kernel)
      (case hdx => first | rfl | kernel_rfl)
      (case hds => first | rfl | kernel_rfl)
      (case hbind => intro s e u; exact .of_eq rfl))
    (case mk11 =>
      refine' PV.xic_mk PySem.F.excBase_OverflowError ?hBn ?hAt ?hNm (PV.InitF.of PySem.F.excBase_OverflowError.toExcCallFacts) PySem.W.kxs_OverflowError PySem.F.store_OverflowError ?iC ?tI ?qi ?qo ?sa ?hd ?hno ?hB ?hCC ?ho ?hsu ?lk ?hcd ?hpar ?har ?hcode ?hvs ?hfile ?hcell ?hks ?hkc ?hka ?hkx ?hk ?hnc ?hco ?hgen ?hmg ?htop ?hev ?hsx ?hdx ?hds ?hbind
      (case hBn => decide +kernel)
      (case hAt => decide +kernel)
      (case hNm => decide +kernel)
      (case iC => k_is)
      (case tI => k_is)
      (case qi => kernel_rfl)
      (case qo => kernel_rfl)
      (case sa => k_is)
      (case hd => k_is)
      (case hno => k_is)
      (case hB => k_is)
      (case hCC => k_is)
      (case ho => k_is)
      (case hsu => kernel_rfl)
      (case lk => k_is)
      (case hcd => k_is)
      (case hpar => first | rfl | kernel_rfl)
      (case har => first | rfl | kernel_rfl)
      (case hcode => k_is)
      (case hvs => first | rfl | kernel_rfl)
      (case hfile => kernel_rfl)
      (case hcell => k_is)
      (case hks => first | rfl | kernel_rfl)
      (case hkc => first | rfl | kernel_rfl)
      (case hka => first | rfl | kernel_rfl)
      (case hkx => first | rfl | kernel_rfl)
      (case hk => first | rfl | kernel_rfl)
      (case hnc => decide +kernel)
      (case hco => first | rfl | kernel_rfl)
      (case hgen => first | rfl | kernel_rfl)
      (case hmg => exact PySem.W.mg_none_of KX G (by k_is))
      (case htop => kernel_rfl)
      (case hev => intro L; exact ⟨rfl, rfl, rfl, rfl, _, rfl⟩)
      (case hsx => decide +kernel)
      (case hdx => first | rfl | kernel_rfl)
      (case hds => first | rfl | kernel_rfl)
      (case hbind => intro s e u; exact .of_eq rfl))
    (case mk8 =>
      refine' PV.xic_mk PySem.F.excBase_LookupError ?hBn ?hAt ?hNm PySem.F.initF_KeyError PySem.W.kxs_KeyError PySem.F.store_KeyError ?iC ?tI ?qi ?qo ?sa ?hd ?hno ?hB ?hCC ?ho ?hsu ?lk ?hcd ?hpar ?har ?hcode ?hvs ?hfile ?hcell ?hks ?hkc ?hka ?hkx ?hk ?hnc ?hco ?hgen ?hmg ?htop ?hev ?hsx ?hdx ?hds ?hbind
      (case hBn => decide +kernel)
      (case hAt => decide +kernel)
      (case hNm => decide +kernel)
      (case iC => k_is)
      (case tI => k_is)
      (case qi => kernel_rfl)
      (case qo => kernel_rfl)
      (case sa => k_is)
      (case hd => k_is)
      (case hno => k_is)
      (case hB => k_is)
      (case hCC => k_is)
      (case ho => k_is)
      (case hsu => kernel_rfl)
      (case lk => k_is)
      (case hcd => k_is)
      (case hpar => first | rfl | kernel_rfl)
      (case har => first | rfl | kernel_rfl)
      (case hcode => k_is)
      (case hvs => first | rfl | kernel_rfl)
      (case hfile => kernel_rfl)
      (case hcell => k_is)
      (case hks => first | rfl | kernel_rfl)
      (case hkc => first | rfl | kernel_rfl)
      (case hka => first | rfl | kernel_rfl)
      (case hkx => first | rfl | kernel_rfl)
      (case hk => first | rfl | kernel_rfl)
      (case hnc => decide +kernel)
      (case hco => first | rfl | kernel_rfl)
      (case hgen => first | rfl | kernel_rfl)
      (case hmg => exact PySem.W.mg_none_of KX G (by k_is))
      (case htop => kernel_rfl)
      (case hev => intro L; exact ⟨rfl, rfl, rfl, rfl, _, rfl⟩)
      (case hsx => decide +kernel)
      (case hdx => first | rfl | kernel_rfl)
      (case hds => first | rfl | kernel_rfl)
      (case hbind => intro s e u; exact .of_eq rfl))
    (case xall => kernel_rfl)
    (case ox_Circle => kernel_rfl)
    (case ox_InvalidLineup => kernel_rfl)
    (case ox_InvalidLot => kernel_rfl)
    (case ox_InvalidNumber => kernel_rfl)
    (case ox_InvalidOperation => kernel_rfl)
    (case ox_InvalidOrder => kernel_rfl)
    (case ox_NothingToUndo => kernel_rfl)
    (case ox_OrderError => kernel_rfl)
    (case ox_ParseError => kernel_rfl)
    (case ox_Refused => kernel_rfl)
    (case ox_TooMany => kernel_rfl)
    (case ox_UnknownPlace => kernel_rfl)
    (case bx_ArithmeticError => kernel_rfl)
    (case bx_IndexError => kernel_rfl)
    (case bx_KeyError => kernel_rfl)
    (case bx_LookupError => kernel_rfl)
    (case bx_OverflowError => kernel_rfl)
    (case bx_RuntimeError => kernel_rfl)
    (case bx_ValueError => kernel_rfl)

