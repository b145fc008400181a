import PyProof.Rows.All
import Wide.All
import OpenK.AllK
import Wide.FinOn
import HandS.ForMost
import HandS.ForExc
import HandS.Flow
import HandS.Deep
import PyProof.FString5
import HandS.Text
import HandS.Iter
import HandS.SetFor
import HandS.TupAny
import HandS.WordsDict
import HandS.TupLen
import PyProof.Rows.ListMulArg
import PyProof.Rows.SeqMore
import HandS.TryOnly
import HandS.IsInst
import HandS.ExcIs
import HandS.RaiseMore
import HandS.DictTup
import HandS.Conv
import PySem.Challenge.RW_tidinghall_k32_whole_line
section
/-! TH0: data, a store, results, combinators. Plain Lean, no kit. -/
set_option linter.all false
namespace TH

/-- immutable data; `ref n`: the n-th object of the store; `exc c`: a caught error of the class numbered c -/
inductive D where
  | non
  | bl (b : Bool)
  | int (i : Int)
  | str (s : List Nat)
  | tup (l : List D)
  | lst (l : List D)
  | ref (n : Nat)
  | exc (c : Nat)
  deriving Inhabited

/-- the largest length -/
def LN : Nat := 16777216

inductive Ob where
  | ml (l : List D)
  | fz (l : List D)
  /-- a dict; t: its keys are tuples; mdl: while it is walked -/
  | md (t : Bool) (kvs : List (D × D))
  | mdl (t : Bool) (kvs : List (D × D))
  | ins (c : Nat) (fs : List (Nat × D))
  deriving Inhabited

abbrev St := List Ob
abbrev Env := List (Option D)

/-- what an evaluation comes to -/
inductive RR (α : Type) where
  | ok (a : α) (st : St)
  | exn (c : Nat) (st : St)
  | stuck
abbrev RE := RR D
abbrev RA := RR (List D)
inductive RS where
  | nx (env : Env) (st : St)
  | ret (d : D) (st : St)
  | brk (env : Env) (st : St)
  | exn (c : Nat) (env : Env) (st : St)
  | stuck
abbrev EM := Env → St → RE
abbrev SM := Env → St → RS
/-- argument lists -/
abbrev AM := Env → St → RA

def RR.bind {α β : Type} (r : RR α) (k : α → St → RR β) : RR β := match r with
  | .ok d st => k d st
  | .exn c st => .exn c st
  | .stuck => .stuck
def RR.bindS {α : Type} (r : RR α) (env : Env) (k : α → St → RS) : RS := match r with
  | .ok d st => k d st
  | .exn c st => .exn c env st
  | .stuck => .stuck
def RS.seq (r : RS) (k : Env → St → RS) : RS := match r with
  | .nx env st => k env st
  | r => r
def ofO (o : Option D) (st : St) : RE := match o with
  | some d => .ok d st
  | none => .stuck

/-! ### equality, truth -/
def b2i (b : Bool) : Int := if b then 1 else 0
mutual
def D.eqv : D → D → Bool
  | .non, .non => true
  | .bl a, .bl b => a == b
  | .bl a, .int j => b2i a == j
  | .int i, .bl b => i == b2i b
  | .int i, .int j => i == j
  | .str x, .str y => x == y
  | .lst xs, .lst ys => D.eqvL xs ys
  | .tup xs, .tup ys => D.eqvL xs ys
  | _, _ => false
def D.eqvL : List D → List D → Bool
  | [], [] => true
  | x :: xs, y :: ys => D.eqv x y && D.eqvL xs ys
  | _, _ => false
end
def D.flat : D → Bool
  | .non => true
  | .bl _ => true
  | .int _ => true
  | .str _ => true
  | _ => false
/-- data without objects, k levels at most, signs below 55296 -/
def D.pu : Nat → D → Bool
  | _, .non => true
  | _, .bl _ => true
  | _, .int _ => true
  | _, .str s => s.all fun c => decide (c < 55296)
  | k + 1, .tup l => l.all (D.pu k)
  | k + 1, .lst l => l.all (D.pu k)
  | _, _ => false
/-- a list's items, a store's list's items -/
def asL (st : St) : D → Option (List D)
  | .lst l => some l
  | .ref n => match st[n]? with
    | some (.ml l) => some l
    | some (.fz l) => some l
    | _ => none
  | _ => none
/-- a list as data -/
def asD (st : St) : D → D
  | .ref n => match st[n]? with
    | some (.ml l) => .lst l
    | some (.fz l) => .lst l
    | _ => .ref n
  | d => d
def truthy (st : St) : D → Option Bool
  | .non => some false
  | .bl b => some b
  | .int i => some (i != 0)
  | .str s => if s.length ≤ LN then some (!s.isEmpty) else none
  | .tup l => some (!l.isEmpty)
  | .lst l => some (!l.isEmpty)
  | .ref n => match st[n]? with
    | some (.ml l) => some (!l.isEmpty)
    | some (.fz l) => some (!l.isEmpty)
    | some (.md false kvs) => some (!kvs.isEmpty)
    | _ => none
  | .exc _ => none

/-! ### pure operators: two values, the store -/
abbrev Op2 := D → D → St → Option D
def oAdd : Op2 := fun x y st => match x, y with
  | .int i, .int j => some (.int (i + j))
  | .str a, .str b => if a.length + b.length ≤ LN then some (.str (a ++ b)) else none
  | .tup a, .tup b => if a.length + b.length ≤ LN ∧ a.isEmpty = false then some (.tup (a ++ b)) else none
  | _, _ => none
def oSub : Op2 := fun x y _ => match x, y with
  | .int i, .int j => some (.int (i - j))
  | _, _ => none
def oMul : Op2 := fun x y _ => match x, y with
  | .int i, .int j => if (-(2 ^ 64) < i ∧ i < 2 ^ 64) ∨ (-(2 ^ 64) < j ∧ j < 2 ^ 64) then some (.int (i * j)) else none
  | _, _ => none
def oDiv : Op2 := fun x y _ => match x, y with
  | .int i, .int j => if 0 < j ∧ j < 1073741824 then some (.int (i / j)) else none
  | _, _ => none
def oMod : Op2 := fun x y _ => match x, y with
  | .int i, .int j => if 0 < j then some (.int (i % j)) else none
  | _, _ => none
def oPow : Op2 := fun x y _ => match x, y with
  | .int i, .int j => if 0 ≤ j ∧ j ≤ 1000000 ∧ i.natAbs < 2 ^ 64 then some (.int (i ^ j.toNat)) else none
  | _, _ => none
/-- == of texts, and of deep data -/
def eqD (x y : D) : Option Bool := match x, y with
  | .str a, .str b => some (a == b)
  | x, y => if x.pu 20 && y.pu 20 then some (x.eqv y) else none
def oEq : Op2 := fun x y st => (eqD (asD st x) (asD st y)).map D.bl
def oNe : Op2 := fun x y st => (eqD (asD st x) (asD st y)).map fun b => D.bl (!b)
def oLt : Op2 := fun x y _ => match x, y with
  | .int i, .int j => some (.bl (decide (i < j)))
  | .str a, .str b => some (.bl (decide (a < b)))
  | _, _ => none
def oLe : Op2 := fun x y _ => match x, y with
  | .int i, .int j => some (.bl (decide (i ≤ j)))
  | _, _ => none
def oGt : Op2 := fun x y _ => match x, y with
  | .int i, .int j => some (.bl (decide (j < i)))
  | .str a, .str b => some (.bl (decide (b < a)))
  | _, _ => none
def oGe : Op2 := fun x y _ => match x, y with
  | .int i, .int j => some (.bl (decide (j ≤ i)))
  | _, _ => none
/-- one sign in a text -/
def inStr (c : List Nat) (s : List Nat) : Option Bool := match c with
  | [a] => some (s.contains a)
  | _ => none
/-- x in items -/
def inT (x : D) (l : List D) : Option Bool :=
  if x.flat && l.all D.flat then some (l.any fun y => y.eqv x)
  else if x.pu 20 && l.all (D.pu 20) then some (l.any fun y => y.eqv x) else none
def inL (x : D) (l : List D) : Option Bool :=
  if x.flat && l.all D.flat then some (l.any fun y => y.eqv x)
  else if x.pu 20 && l.all (D.pu 20) then some (l.any fun y => y.eqv x) else none
def oIn : Op2 := fun x y st => match y with
  | .str s => match x with
    | .str c => (inStr c s).map D.bl
    | _ => none
  | .tup l => (inT x l).map D.bl
  | y => match asL st y with
    | some l => (inL x l).map D.bl
    | none => none
def oNotIn : Op2 := fun x y st => match oIn x y st with
  | some (.bl b) => some (.bl (!b))
  | _ => none
def oIs : Op2 := fun x y _ => match y with
  | .non => match x with
    | .non => some (.bl true)
    | _ => some (.bl false)
  | .bl b => match x with
    | .bl a => some (.bl (a == b))
    | _ => some (.bl false)
  | _ => none
def oIsNot : Op2 := fun x y _ => match y with
  | .non => match x with
    | .non => some (.bl false)
    | _ => some (.bl true)
  | .bl b => match x with
    | .bl a => some (.bl (!(a == b)))
    | _ => some (.bl true)
  | _ => none
/-- a place, from the end too -/
def ixN (n : Nat) (i : Int) : Option Nat := if 0 ≤ i then (if i < n then some i.toNat else none) else if -(n : Int) ≤ i then some (i + n).toNat else none
def oIx : Op2 := fun x y st => match y with
  | .int i => match x with
    | .str s => if s.length ≤ LN then (ixN s.length i).bind fun j => (s[j]?).map fun c => .str [c] else none
    | .tup l => (ixN l.length i).bind fun j => l[j]?
    | x => match asL st x with
      | some l => (ixN l.length i).bind fun j => l[j]?
      | none => none
  | _ => none

/-! ### expressions -/
def xVar (i : Nat) : EM := fun env st => match env[i]? with
  | some (some d) => .ok d st
  | _ => .stuck
def xC (d : D) : EM := fun _ st => .ok d st
def xBin (o : Op2) (f g : EM) : EM := fun env st => (f env st).bind fun x st => (g env st).bind fun y st => ofO (o x y st) st
def xNot (f : EM) : EM := fun env st => (f env st).bind fun x st => match truthy st x with
  | some b => .ok (.bl (!b)) st
  | none => .stuck
def xNeg (f : EM) : EM := fun env st => (f env st).bind fun x st => match x with
  | .int i => .ok (.int (-i)) st
  | _ => .stuck
def xAnd (f g : EM) : EM := fun env st => (f env st).bind fun x st => match truthy st x with
  | some true => g env st
  | some false => .ok x st
  | none => .stuck
def xOr (f g : EM) : EM := fun env st => (f env st).bind fun x st => match truthy st x with
  | some true => .ok x st
  | some false => g env st
  | none => .stuck
def xIf (c f g : EM) : EM := fun env st => (c env st).bind fun x st => match truthy st x with
  | some true => f env st
  | some false => g env st
  | none => .stuck
/-- a < b < c -/
def xChain (o p : Op2) (f g h : EM) : EM := fun env st => (f env st).bind fun x st => (g env st).bind fun y st => match o x y st with
  | some (.bl true) => (h env st).bind fun z st => ofO (p y z st) st
  | some (.bl false) => .ok (.bl false) st
  | _ => .stuck
def aNil : AM := fun _ st => .ok [] st
def aCons (f : EM) (g : AM) : AM := fun env st => (f env st).bind fun x st => (g env st).bind fun xs st => .ok (x :: xs) st
/-- a tuple that is written -/
def xTup (a : AM) : EM := fun env st => (a env st).bind fun xs st => if xs.length ≤ LN then .ok (.tup xs) st else .stuck
/-- what makes a new list: its items -/
abbrev LM := Env → St → RA
def lLst (a : AM) : LM := fun env st => (a env st).bind fun xs st => if xs.length ≤ LN then .ok xs st else .stuck
/-- the new list as a value; as an object of the store -/
def xLst (a : LM) : EM := fun env st => (a env st).bind fun xs st => .ok (.lst xs) st
def xMut (a : LM) : EM := fun env st => (a env st).bind fun xs st => .ok (.ref st.length) (st ++ [.ml xs])
/-- an object of the store that is a list, from now on never changed -/
def xFrz (f : EM) : EM := fun env st => (f env st).bind fun x st => match x with
  | .ref n => match st[n]? with
    | some (.ml l) => .ok (.lst l) (st.set n (.fz l))
    | some (.fz l) => .ok (.lst l) st
    | _ => .stuck
  | .lst l => .ok (.lst l) st
  | _ => .stuck
/-- a slice -/
def sIx (n d : Nat) : Option Int → Nat
  | none => d
  | some v => if v < 0 then (v + (n : Int)).toNat else min v.toNat n
def cut {α : Type} (l : List α) (lo hi : Option Int) : List α := (l.drop (sIx l.length 0 lo)).take (sIx l.length l.length hi - sIx l.length 0 lo)
/-- a slice's bound -/
def xPart : Option EM → Env → St → RR (Option Int)
  | none, _, st => .ok none st
  | some f, env, st => (f env st).bind fun x st => match x with
    | .int i => .ok (some i) st
    | _ => .stuck
def lSl (f : EM) (lo hi : Option EM) : LM := fun env st => (f env st).bind fun x st => (xPart lo env st).bind fun l st => (xPart hi env st).bind fun h st => match asL st x with
  | some xs => .ok (cut xs l h) st
  | none => .stuck
/-- a slice of a text, of a tuple -/
def xSl (f : EM) (lo hi : Option EM) : EM := fun env st => (f env st).bind fun x st => (xPart lo env st).bind fun l st => (xPart hi env st).bind fun h st => match x with
  | .str s => if s.length ≤ LN then .ok (.str (cut s l h)) st else .stuck
  | .tup xs => .ok (.tup (cut xs l h)) st
  | _ => .stuck
def lCat (f g : EM) : LM := fun env st => (f env st).bind fun x st => (g env st).bind fun y st => match asL st x, asL st y with
  | some a, some b => if a.length + b.length ≤ LN then .ok (a ++ b) st else .stuck
  | _, _ => .stuck
/-- a list some times over -/
def lRep (f g : EM) : LM := fun env st => (f env st).bind fun x st => (g env st).bind fun y st => match asL st x, y with
  | some a, .int k => if 0 ≤ k ∧ k ≤ 1000 ∧ a.length ≤ 1000 then .ok (List.replicate k.toNat a).flatten st else .stuck
  | _, _ => .stuck

/-! ### calls -/
abbrev Calls := Nat → List D → St → RE
def xCall (c : Calls) (f : Nat) (a : AM) : EM := fun env st => (a env st).bind fun ds st => c f ds st
/-- a built-in function of values -/
def xB (o : List D → St → Option D) (a : AM) : EM := fun env st => (a env st).bind fun ds st => ofO (o ds st) st
def bLen : List D → St → Option D
  | [.str s], _ => if s.length ≤ LN then some (.int s.length) else none
  | [.tup l], _ => some (.int l.length)
  | [x], st => match asL st x with
    | some l => some (.int l.length)
    | none => match x with
      | .ref n => match st[n]? with
        | some (.md _ kvs) => some (.int kvs.length)
        | _ => none
      | _ => none
  | _, _ => none
def bOrd : List D → St → Option D
  | [.str [c]], _ => some (.int c)
  | _, _ => none
/-- a list of truths -/
def blsOf : List D → Option (List Bool)
  | [] => some []
  | .bl b :: r => (blsOf r).map fun bs => b :: bs
  | _ => none
def bAll : List D → St → Option D
  | [x], st => match asL st x with
    | some l => (blsOf l).map fun bs => .bl (bs.all id)
    | none => none
  | _, _ => none
def bAny : List D → St → Option D
  | [x], st => match asL st x with
    | some l => (blsOf l).map fun bs => .bl (bs.any id)
    | none => none
  | _, _ => none
def bMax2 : List D → St → Option D
  | [.int i, .int j], _ => some (.int (if j > i then j else i))
  | _, _ => none
def bMin2 : List D → St → Option D
  | [.int i, .int j], _ => some (.int (if j < i then j else i))
  | _, _ => none
def bInt : List D → St → Option D
  | [.int i], _ => some (.int i)
  | [.bl b], _ => some (.int (b2i b))
  | _, _ => none
/-- the numbers of built-in types: None's, bool, int, str, tuple, list -/
def tyN (st : St) : D → Option Nat
  | .non => some 0
  | .bl _ => some 1
  | .int _ => some 2
  | .str _ => some 3
  | .tup _ => some 4
  | .lst _ => some 5
  | _ => none
/-- isinstance(x, a built-in type) -/
def isiT (k : Nat) (d : D) (st : St) : Option Bool := (tyN st d).map fun t => t == k || (t == 1 && k == 2)
/-- .. of a caught error -/
def isiE (sub : Nat → Option Bool) (d : D) (_ : St) : Option Bool := match d with
  | .exc c => sub c
  | _ => none
def xIsi (ans : D → St → Option Bool) (f : EM) : EM := fun env st => (f env st).bind fun x st => ofO ((ans x st).map D.bl) st
/-- split at a sign -/
def splitL (c : Nat) : List Nat → List (List Nat)
  | [] => [[]]
  | a :: r => if a = c then [] :: splitL c r else match splitL c r with
    | [] => [[a]]
    | p :: ps => (a :: p) :: ps
def joinS (s : List Nat) : List (List Nat) → List Nat
  | [] => []
  | [p] => p
  | p :: q :: r => p ++ (s ++ joinS s (q :: r))
/-- the receiver's type is looked at ahead of the arguments -/
def isStr : D → St → Bool
  | .str _, _ => true
  | _, _ => false
def isLst (x : D) (st : St) : Bool := (asL st x).isSome
def xBm (ty : D → St → Bool) (o : Op2) (f g : EM) : EM := fun env st => (f env st).bind fun x st => if ty x st then (g env st).bind fun y st => ofO (o x y st) st else .stuck
/-- x.split(y), y a sign: the parts -/
def splitD (x y : D) : Option (List D) := match x with
  | .str s => match y with
    | .str p => match p with
      | [c] => if s.length + 2 ≤ LN ∧ c < 256 then some ((splitL c s).map D.str) else none
      | _ => none
    | _ => none
  | _ => none
def ofL (o : Option (List D)) (st : St) : RA := match o with
  | some d => .ok d st
  | none => .stuck
def lSplit (f g : EM) : LM := fun env st => (f env st).bind fun x st => if isStr x st then (g env st).bind fun y st => ofL (splitD x y) st else .stuck
def strsOf : List D → Option (List (List Nat))
  | [] => some []
  | .str s :: r => (strsOf r).map fun ss => s :: ss
  | _ => none
def oJoin : Op2 := fun x y st => match x, asL st y with
  | .str s, some l => match strsOf l with
    | some ps => if (ps.map List.length).sum + ps.length * s.length ≤ LN then some (.str (joinS s ps)) else none
    | none => none
  | _, _ => none
def oStarts : Op2 := fun x y _ => match x, y with
  | .str s, .str p => some (.bl (p.isPrefixOf s))
  | _, _ => none
/-- how many items of flat ones are as x -/
def oCount : Op2 := fun x y st => match asL st x with
  | some l => if y.flat && l.all D.flat then some (.int (l.countP fun z => z.eqv y)) else none
  | none => none
/-- the place of the first item as y -/
def oIndex : Op2 := fun x y st => match asL st x with
  | some l => if y.flat && l.all D.flat then (match l.findIdx? fun z => z.eqv y with
    | some j => some (.int j)
    | none => none) else none
  | none => none
/-- xs.append(e) -/
def xApp (f g : EM) : EM := fun env st => (f env st).bind fun x st => if isLst x st then (g env st).bind fun y st => match x with
  | .ref n => match st[n]? with
    | some (.ml l) => if l.length < LN then .ok .non (st.set n (.ml (l ++ [y]))) else .stuck
    | _ => .stuck
  | _ => .stuck else .stuck

/-- list(x), tuple(x) -/
def lList (f : EM) : LM := fun env st => (f env st).bind fun x st => match x with
  | .tup l => .ok l st
  | x => match asL st x with
    | some l => .ok l st
    | none => .stuck
def xTuple (f : EM) : EM := fun env st => (f env st).bind fun x st => match x with
  | .tup l => .ok (.tup l) st
  | x => match asL st x with
    | some l => .ok (.tup l) st
    | none => .stuck

/-! ### what is walked -/
/-- a walked thing: data, or a list of the store -/
inductive Wk where
  | data (l : List D)
  | obj (n : Nat)
abbrev RWk := RR Wk
abbrev IM := Env → St → RWk
def wkOf (x : D) (st : St) : Option Wk := match x with
  | .lst l => some (.data l)
  | .tup l => some (.data l)
  | .str s => if s.length ≤ LN then some (.data (s.map fun c => .str [c])) else none
  | .ref n => match st[n]? with
    | some (.ml _) => some (.obj n)
    | some (.fz l) => some (.data l)
    | _ => none
  | _ => none
def iVal (f : EM) : IM := fun env st => (f env st).bind fun x st => match wkOf x st with
  | some w => .ok w st
  | none => .stuck
def rng (i : Int) : Nat → List D
  | 0 => []
  | n + 1 => .int i :: rng (i + 1) n
def iRng1 (f : EM) : IM := fun env st => (f env st).bind fun x st => match x with
  | .int j => if -(2 ^ 62) ≤ j ∧ j < 2 ^ 62 then .ok (.data (rng 0 j.toNat)) st else .stuck
  | _ => .stuck
def iRng2 (f g : EM) : IM := fun env st => (f env st).bind fun x st => (g env st).bind fun y st => match x, y with
  | .int i, .int j => if -(2 ^ 62) ≤ i ∧ i < 2 ^ 62 ∧ -(2 ^ 62) ≤ j ∧ j < 2 ^ 62 then .ok (.data (rng i (j - i).toNat)) st else .stuck
  | _, _ => .stuck

/-! ### targets -/
inductive Tg where
  | name (i : Nat)
  | tup (is : List Nat)
def setAll : List Nat → List D → Env → Env
  | i :: is, d :: ds, env => setAll is ds (env.set i (some d))
  | _, _, env => env
def Tg.put (t : Tg) (d : D) (env : Env) (st : St) : Option Env := match t with
  | .name i => some (env.set i (some d))
  | .tup is => match d with
    | .tup ds => if ds.length = is.length then some (setAll is ds env) else none
    | d => match asL st d with
      | some ds => if ds.length = is.length then some (setAll is ds env) else none
      | none => none
def Tg.slots : Tg → List Nat
  | .name i => [i]
  | .tup is => is

/-! ### comprehensions -/
def wipe (env : Env) : List Nat → Env
  | [] => env
  | v :: vs => (wipe env vs).set v none
/-- nothing is raised within -/
def noX {α : Type} : RR α → RR α
  | .exn _ _ => .stuck
  | r => r
/-- one turn: the target, the test, the element -/
def cTurn (t : Tg) (c : Option EM) (e : EM) (env : Env) (d : D) (st : St) : RR (Option D) :=
  match t.put d env st with
  | none => .stuck
  | some env1 => match c with
    | none => (noX (e env1 st)).bind fun y st => .ok (some y) st
    | some c => (noX (c env1 st)).bind fun x st => match truthy st x with
      | some true => (noX (e env1 st)).bind fun y st => .ok (some y) st
      | some false => .ok none st
      | none => .stuck
def cData (t : Tg) (c : Option EM) (e : EM) (env : Env) : List D → List D → St → RA
  | [], acc, st => .ok acc st
  | d :: ds, acc, st => (cTurn t c e env d st).bind fun y st => match y with
    | some y => if acc.length < LN then cData t c e env ds (acc ++ [y]) st else .stuck
    | none => cData t c e env ds acc st
/-- over a list of the store, read at each turn -/
def cObj (t : Tg) (c : Option EM) (e : EM) (env : Env) (n : Nat) : Nat → Nat → List D → St → RA
  | 0, _, _, _ => .stuck
  | fuel + 1, i, acc, st => match st[n]? with
    | some (.ml l) => match l[i]? with
      | none => .ok acc st
      | some d => (cTurn t c e env d st).bind fun y st => match y with
        | some y => if acc.length < LN then cObj t c e env n fuel (i + 1) (acc ++ [y]) st else .stuck
        | none => cObj t c e env n fuel (i + 1) acc st
    | _ => .stuck
/-- turns at most in a loop whose end isn't known ahead -/
def FU : Nat := 100000
def lComp (it : IM) (t : Tg) (c : Option EM) (e : EM) (own : List Nat) : LM := fun env st => (it env st).bind fun w st => match w with
  | .data l => cData t c e (wipe env own) l [] st
  | .obj n => cObj t c e (wipe env own) n FU 0 [] st

/-! ### statements -/
def sSkip : SM := fun env st => .nx env st
def sSeq (a b : SM) : SM := fun env st => (a env st).seq b
def sSet (i : Nat) (f : EM) : SM := fun env st => (f env st).bindS env fun d st => .nx (env.set i (some d)) st
/-- a comprehension's names are forgotten behind it -/
def xWipe (f : EM) : EM := f
def sTgt (t : Tg) (f : EM) : SM := fun env st => (f env st).bindS env fun d st => match t.put d env st with
  | some env => .nx env st
  | none => .stuck
def sExpr (f : EM) : SM := fun env st => (f env st).bindS env fun _ st => .nx env st
def sRet (f : EM) : SM := fun env st => (f env st).bindS env fun d st => .ret d st
def sRetN : SM := fun _ st => .ret .non st
def sIf (c : EM) (a b : SM) : SM := fun env st => (c env st).bindS env fun x st => match truthy st x with
  | some true => a env st
  | some false => b env st
  | none => .stuck
def sBrk : SM := fun env st => .brk env st
def sRaise (c : Nat) : SM := fun env st => .exn c env st
/-- o[i] = e, o a list of the store -/
def sSetL (f g e : EM) : SM := fun env st => (e env st).bindS env fun y st => (f env st).bindS env fun x st => (g env st).bindS env fun k st => match x, k with
  | .ref n, .int i => match st[n]? with
    | some (.ml l) => match ixN l.length i with
      | some j => .nx env (st.set n (.ml (l.set j y)))
      | none => .stuck
    | _ => .stuck
  | _, _ => .stuck
/-- for: over data -/
def fData (t : Tg) (b : SM) : List D → Env → St → RS
  | [], env, st => .nx env st
  | d :: ds, env, st => match t.put d env st with
    | none => .stuck
    | some env1 => match b env1 st with
      | .nx env2 st2 => fData t b ds env2 st2
      | .brk env2 st2 => .nx env2 st2
      | r => r
def fObj (t : Tg) (b : SM) (n : Nat) : Nat → Nat → Env → St → RS
  | 0, _, _, _ => .stuck
  | fuel + 1, i, env, st => match st[n]? with
    | some (.ml l) => match l[i]? with
      | none => .nx env st
      | some d => match t.put d env st with
        | none => .stuck
        | some env1 => match b env1 st with
          | .nx env2 st2 => fObj t b n fuel (i + 1) env2 st2
          | .brk env2 st2 => .nx env2 st2
          | r => r
    | _ => .stuck
def sFor (it : IM) (t : Tg) (b : SM) : SM := fun env st => (it env st).bindS env fun w st => match w with
  | .data l => fData t b l env st
  | .obj n => fObj t b n FU 0 env st
def wLoop (c : EM) (b : SM) : Nat → Env → St → RS
  | 0, _, _ => .stuck
  | fuel + 1, env, st => (c env st).bindS env fun x st => match truthy st x with
    | some true => match b env st with
      | .nx env2 st2 => wLoop c b fuel env2 st2
      | .brk env2 st2 => .nx env2 st2
      | r => r
    | some false => .nx env st
    | none => .stuck
def sWhile (c : EM) (b : SM) : SM := fun env st => wLoop c b FU env st
/-- try: b except C ..: hd; takes: which classes C takes -/
def sTry (b : SM) (takes : Nat → Option Bool) (hd : Nat → Env → St → RS) : SM := fun env st => match b env st with
  | .exn c env2 st2 => (match takes c with
    | some true => hd c env2 st2
    | some false => .exn c env2 st2
    | none => .stuck)
  | r => r
/-- .. as i: the name is gone behind the suite -/
def hdAs (i : Nat) (h : SM) (c : Nat) (env : Env) (st : St) : RS := match h (env.set i (some (.exc c))) st with
  | .nx env3 st3 => .nx (env3.set i none) st3
  | .brk env3 st3 => .brk (env3.set i none) st3
  | .exn _ _ _ => .stuck
  | r => r
def hdNo (h : SM) (_ : Nat) (env : Env) (st : St) : RS := match h env st with
  | .exn _ _ _ => .stuck
  | r => r
/-- a def's body -/
def body (n slots : Nat) (s : SM) (ds : List D) (st : St) : RE := if ds.length = n then
  match s (ds.map some ++ List.replicate (slots - ds.length) none) st with
  | .nx _ st => .ok .non st
  | .ret d st => .ok d st
  | .exn c _ st => .exn c st
  | _ => .stuck
  else .stuck

/-! ### instances: an attribute by its number; ok: the classes that are looked at; nf: how many numbers there are -/
def fget (f : Nat) : List (Nat × D) → Option D
  | [] => none
  | (g, d) :: r => if g = f then some d else fget f r
def fput (f : Nat) (d : D) : List (Nat × D) → List (Nat × D)
  | [] => [(f, d)]
  | (g, x) :: r => if g = f then (g, d) :: r else (g, x) :: fput f d r
def fok (nf : Nat) (fs : List (Nat × D)) : Bool := fs.all fun p => decide (p.1 < nf)
def xFld (nf : Nat) (ok : Nat → Bool) (f : Nat) (g : EM) : EM := fun env st => (g env st).bind fun x st => match x with
  | .ref n => match st[n]? with
    | some (.ins c fs) => if ok c && fok nf fs then ofO (fget f fs) st else .stuck
    | _ => .stuck
  | _ => .stuck
/-- o.f = e: the value first -/
def sFld (nf : Nat) (ok : Nat → Bool) (f : Nat) (g e : EM) : SM := fun env st => (e env st).bindS env fun y st => (g env st).bindS env fun x st => match x with
  | .ref n => match st[n]? with
    | some (.ins c fs) => if ok c && fok nf fs && decide (fs.length < 900) then .nx env (st.set n (.ins c (fput f y fs))) else .stuck
    | _ => .stuck
  | _ => .stuck
/-- a new instance, then its __init__ -/
def xMake (c : Calls) (cl fi : Nat) (a : AM) : EM := fun env st => (a env st).bind fun ds st => (c fi (.ref st.length :: ds) (st ++ [.ins cl []])).bind fun d st' => match d with
  | .non => .ok (.ref st.length) st'
  | _ => .stuck
/-- o.m(..), a method of the instance's class -/
def xMeth (c : Calls) (mt : Nat → Option Nat) (nf : Nat) (g : EM) (a : AM) : EM := fun env st => (g env st).bind fun x st => match x with
  | .ref n => match st[n]? with
    | some (.ins cl fs) => match mt cl with
      | some fi => if fok nf fs then (a env st).bind fun ds st => c fi (.ref n :: ds) st else .stuck
      | none => .stuck
    | _ => .stuck
  | _ => .stuck
/-- xs.remove(y), whole numbers -/
def intsOf : List D → Option (List Int)
  | [] => some []
  | .int i :: r => (intsOf r).map fun is => i :: is
  | _ => none
def xRem (f g : EM) : EM := fun env st => (f env st).bind fun x st => if isLst x st then (g env st).bind fun y st => match x, y with
  | .ref n, .int k => match st[n]? with
    | some (.ml l) => match intsOf l with
      | some is => if is.contains k then .ok .non (st.set n (.ml ((is.erase k).map D.int))) else .stuck
      | none => .stuck
    | _ => .stuck
  | _, _ => .stuck else .stuck
/-- xs.extend(ys) -/
def xExt (f g : EM) : EM := fun env st => (f env st).bind fun x st => if isLst x st then (g env st).bind fun y st => match x with
  | .ref n => match st[n]? with
    | some (.ml l) => match asL st y with
      | some zs => if l.length + zs.length ≤ LN then .ok .non (st.set n (.ml (l ++ zs))) else .stuck
      | none => .stuck
    | _ => .stuck
  | _ => .stuck else .stuck
/-- xs.pop(i) -/
def xPopI (f g : EM) : EM := fun env st => (f env st).bind fun x st => if isLst x st then (g env st).bind fun y st => match x, y with
  | .ref n, .int i => match st[n]? with
    | some (.ml l) => match ixN l.length i with
      | some j => if l.length ≤ LN then (match l[j]? with
        | some d => .ok d (st.set n (.ml (l.eraseIdx j)))
        | none => .stuck) else .stuck
      | none => .stuck
    | _ => .stuck
  | _, _ => .stuck else .stuck
/-- a whole number's figures -/
def figs (n : Nat) : List Nat := (Nat.toDigits 10 n).map Char.toNat
/-- str(i), i not below zero -/
def bStr : List D → St → Option D
  | [.int i], _ => if 0 ≤ i ∧ i < 2 ^ 64 then some (.str (figs i.toNat)) else none
  | [.str s], _ => some (.str s)
  | _, _ => none

/-! ### dicts -/
def flatKey : D → Bool
  | .int _ => true
  | .str _ => true
  | _ => false
/-- what may be a key: a whole number or a text; or (t) a tuple of these -/
def keyOk : Bool → D → Bool
  | false, d => flatKey d
  | true, .tup l => l.all flatKey
  | _, _ => false
/-- a dict's pairs, walked or not -/
def asK (st : St) : D → Option (Bool × List (D × D))
  | .ref n => match st[n]? with
    | some (.md t kvs) => some (t, kvs)
    | some (.mdl t kvs) => some (t, kvs)
    | _ => none
  | _ => none
def dlook (kvs : List (D × D)) (k : D) : Option D := (kvs.find? fun p => p.1.eqv k).map (·.2)
def dputL (kvs : List (D × D)) (k v : D) : List (D × D) := if kvs.any fun p => p.1.eqv k then kvs.map fun p => if p.1.eqv k then (p.1, v) else p else kvs ++ [(k, v)]
def ddrop (kvs : List (D × D)) (k : D) : List (D × D) := kvs.filter fun p => !p.1.eqv k
def isDct (x : D) (st : St) : Bool := (asK st x).isSome
def xDNew (t : Bool) : EM := fun _ st => .ok (.ref st.length) (st ++ [.md t []])
/-- a display, its keys texts that are written -/
def xDisp (ks : List (List Nat)) (a : AM) : EM := fun env st => (a env st).bind fun ds st => if ds.length = ks.length ∧ ks.length ≤ 15 ∧ ks.Nodup then .ok (.ref st.length) (st ++ [.md false ((ks.map D.str).zip ds)]) else .stuck
def xDGet (f g : EM) : EM := fun env st => (f env st).bind fun x st => (g env st).bind fun y st => match asK st x with
  | some (t, kvs) => if keyOk t y then ofO (dlook kvs y) st else .stuck
  | none => .stuck
def xDIn (g f : EM) : EM := fun env st => (g env st).bind fun y st => (f env st).bind fun x st => match asK st x with
  | some (t, kvs) => if keyOk t y then .ok (.bl (dlook kvs y).isSome) st else .stuck
  | none => .stuck
def xDNotIn (g f : EM) : EM := fun env st => (g env st).bind fun y st => (f env st).bind fun x st => match asK st x with
  | some (t, kvs) => if keyOk t y then .ok (.bl (!(dlook kvs y).isSome)) st else .stuck
  | none => .stuck
def xDGet2 (f g h : EM) : EM := fun env st => (f env st).bind fun x st => if isDct x st then (g env st).bind fun y st => (h env st).bind fun z st => match asK st x with
  | some (t, kvs) => if keyOk t y then .ok ((dlook kvs y).getD z) st else .stuck
  | none => .stuck else .stuck
def xDPop1 (f g : EM) : EM := fun env st => (f env st).bind fun x st => if isDct x st then (g env st).bind fun y st => match x with
  | .ref n => match st[n]? with
    | some (.md t kvs) => if keyOk t y then (match dlook kvs y with
      | some v => .ok v (st.set n (.md t (ddrop kvs y)))
      | none => .stuck) else .stuck
    | _ => .stuck
  | _ => .stuck else .stuck
def xDPop2 (f g h : EM) : EM := fun env st => (f env st).bind fun x st => if isDct x st then (g env st).bind fun y st => (h env st).bind fun z st => match x with
  | .ref n => match st[n]? with
    | some (.md t kvs) => if keyOk t y then (match dlook kvs y with
      | some v => .ok v (st.set n (.md t (ddrop kvs y)))
      | none => .ok z st) else .stuck
    | _ => .stuck
  | _ => .stuck else .stuck
/-- d[k] = e: the value first -/
def sDPut (f g e : EM) : SM := fun env st => (e env st).bindS env fun v st => (f env st).bindS env fun x st => (g env st).bindS env fun y st => match x with
  | .ref n => match st[n]? with
    | some (.md t kvs) => if keyOk t y ∧ kvs.length < LN then .nx env (st.set n (.md t (dputL kvs y v))) else .stuck
    | _ => .stuck
  | _ => .stuck
/-- the walked dict is let go -/
def unlock (n : Nat) (t : Bool) (kvs : List (D × D)) : RS → RS
  | .nx env st => .nx env (st.set n (.md t kvs))
  | .ret d st => .ret d (st.set n (.md t kvs))
  | _ => .stuck
/-- for k in d.keys() -/
def sForK (f : EM) (t : Tg) (b : SM) : SM := fun env st => (f env st).bindS env fun x st => match x with
  | .ref n => match st[n]? with
    | some (.md ty kvs) => unlock n ty kvs (fData t b (kvs.map (·.1)) env (st.set n (.mdl ty kvs)))
    | _ => .stuck
  | _ => .stuck
/-- [e for k in d.keys() if c] -/
def lCompK (f : EM) (t : Tg) (c : Option EM) (e : EM) (own : List Nat) : LM := fun env st => (f env st).bind fun x st => match x with
  | .ref n => match st[n]? with
    | some (.md ty kvs) => (cData t c e (wipe env own) (kvs.map (·.1)) [] (st.set n (.mdl ty kvs))).bind fun xs st => .ok xs (st.set n (.md ty kvs))
    | _ => .stuck
  | _ => .stuck
/-! ### sorted, sets -/
def ltStr : List Nat → List Nat → Bool := fun a b => decide (a < b)
/-- the order of whole numbers, texts, tuples of these -/
def flatLt : D → D → Bool
  | .int i, .int j => decide (i < j)
  | .str a, .str b => decide (a < b)
  | _, _ => false
def tupLt : List D → List D → Bool
  | [], [] => false
  | [], _ :: _ => true
  | _ :: _, [] => false
  | x :: xs, y :: ys => if x.eqv y then tupLt xs ys else flatLt x y
def dLt : D → D → Bool
  | .tup xs, .tup ys => tupLt xs ys
  | x, y => flatLt x y
/-- of one shape -/
def flatSh : D → D → Bool
  | .int _, .int _ => true
  | .str _, .str _ => true
  | _, _ => false
def tupSh : List D → List D → Bool
  | [], [] => true
  | x :: xs, y :: ys => flatSh x y && tupSh xs ys
  | _, _ => false
def dSh : D → D → Bool
  | .tup xs, .tup ys => tupSh xs ys
  | x, y => flatSh x y
def dIns (x : D) : List D → List D
  | [] => [x]
  | y :: ys => if dLt y x then y :: dIns x ys else x :: y :: ys
def dSort : List D → List D
  | [] => []
  | x :: xs => dIns x (dSort xs)
/-- sorted: fewer than 64 of one shape -/
def sortD (l : List D) : Option (List D) := if l.length < 64 ∧ (match l with | [] => true | x :: _ => l.all (dSh x)) = true then some (dSort l) else none
def lSort (f : EM) : LM := fun env st => (f env st).bind fun x st => match asL st x with
  | some l => ofL (sortD l) st
  | none => .stuck
def lSortK (f : EM) : LM := fun env st => (f env st).bind fun x st => match asK st x with
  | some (_, kvs) => ofL (sortD (kvs.map (·.1))) st
  | none => .stuck
def lListK (f : EM) : LM := fun env st => (f env st).bind fun x st => match asK st x with
  | some (_, kvs) => .ok (kvs.map (·.1)) st
  | none => .stuck
/-- list(range(..)) -/
def lListR (it : IM) : LM := fun env st => (it env st).bind fun w st => match w with
  | .data l => if l.length ≤ LN then .ok l st else .stuck
  | .obj _ => .stuck
/-- without those that come again -/
def dedup : List D → List D
  | [] => []
  | x :: xs => x :: (dedup xs).filter fun y => !y.eqv x
/-- sorted(set(x)), texts -/
def lSortSet (f : EM) : LM := fun env st => (f env st).bind fun x st => match asL st x with
  | some l => if (strsOf l).isSome then ofL (sortD (dedup l)) st else .stuck
  | none => .stuck
/-- a text, a tuple some times over -/
def oRep : Op2 := fun x y _ => match x, y with
  | .str s, .int k => if 0 ≤ k ∧ k ≤ 1000 ∧ s.length ≤ 1000 then some (.str (List.replicate k.toNat s).flatten) else none
  | .tup l, .int k => if 0 < k ∧ k ≤ 1000 ∧ l.length ≤ 1000 ∧ l.isEmpty = false ∧ k ≠ 1 then some (.tup (List.replicate k.toNat l).flatten) else none
  | _, _ => none
/-- a written dict's get: its keys texts -/
def xKGet (kvs : List (List Nat × D)) (f g : EM) : EM := fun env st => (f env st).bind fun y st => (g env st).bind fun z st => match y with
  | .str s => .ok (((kvs.find? fun p => p.1 == s).map (·.2)).getD z) st
  | _ => .stuck
/-- s.find(t, i), t one sign -/
def findAt (c : Nat) : List Nat → Nat → Int
  | [], _ => -1
  | a :: r, i => if a = c then i else findAt c r (i + 1)
def xFind (f g h : EM) : EM := fun env st => (f env st).bind fun x st => if isStr x st then (g env st).bind fun y st => (h env st).bind fun z st => match x, y, z with
  | .str s, .str [c], .int i => if s.length ≤ LN ∧ 0 ≤ i ∧ i ≤ s.length then .ok (.int (findAt c (s.drop i.toNat) i.toNat)) st else .stuck
  | _, _, _ => .stuck else .stuck
/-- try: b except C: raise k(..) from None -/
def sTryR (b : SM) (takes : Nat → Option Bool) (k : Nat) : SM := fun env st => match b env st with
  | .exn c env2 st2 => (match takes c with
    | some true => .exn k env2 st2
    | some false => .exn c env2 st2
    | none => .stuck)
  | r => r
end TH
end
section
set_option Elab.async false
set_option linter.all false
set_option autoImplicit false
set_option maxRecDepth 100000
/-! TH1: how data and a store lie in the layer's heap. -/
namespace TH
open PySem L2 TL

/-- what the link tells: the written part, the classes' addresses, the fields' names -/
structure Lk where
  K : PySem.W.Frag
  ca : Nat → Addr
  fld : Nat → Str

/-- where the store's objects lie; what is left out (a comprehension's list while it is made) -/
structure Ly where
  adr : List Addr
  out : List Addr
/-- objects of the store that don't change: frozen lists, dicts while they are walked -/
def Ob.still : Ob → Prop
  | .fz _ => True
  | .mdl _ _ => True
  | _ => False
/-- an address that no changing object of the store has -/
def Imm (ρ : Ly) (st : TH.St) (a : Addr) : Prop := a ∉ ρ.out ∧ ∀ n : Nat, ρ.adr[n]? = some a → ∃ ob : Ob, st[n]? = some ob ∧ ob.still
/-- a list, a tuple of the written part -/
def WrL (K : PySem.W.Frag) (a : Addr) (xs : List V) : Prop :=
  ∃ (o : Obj) (its : Array Value) (n : Nat), K.lookup a = some o ∧ o.cls = .type "list" ∧ o.dict = none ∧ o.data = .seq its n ∧ its.size ≤ sizeLine ∧ Vals xs its.toList
def WrT (K : PySem.W.Frag) (a : Addr) (xs : List V) : Prop :=
  ∃ (o : Obj) (its : Array Value) (n : Nat), K.lookup a = some o ∧ o.cls = .type "tuple" ∧ o.data = .seq its n ∧ its.size ≤ sizeLine ∧ Vals xs its.toList
def LstAt (L : Lk) (ρ : Ly) (st : TH.St) (H : Hp) (a : Addr) (xs : List V) : Prop := (Rd H a (.lst xs) ∧ Imm ρ st a) ∨ WrL L.K a xs
def TupAt (_ : Lk) (ρ : Ly) (st : TH.St) (H : Hp) (a : Addr) (xs : List V) : Prop := H a = some (.tup xs) ∧ Imm ρ st a
/-- a caught error's object: of the class at c, without a dict -/
def excPhi (c a : Addr) : Heap → Prop := fun h => ∃ o vs, h.get? a = some o ∧ o.cls = Value.ref c ∧ o.dict = none ∧ o.data = .fields vs

mutual
inductive Rep (L : Lk) (ρ : Ly) (st : TH.St) (H : Hp) : V → D → Prop
  | non : Rep L ρ st H .non .non
  | bl (b : Bool) : Rep L ρ st H (.bl b) (.bl b)
  | int (i : Int) : Rep L ρ st H (.int i) (.int i)
  | str (x : Str) : Rep L ρ st H (.str x) (.str (tl x))
  | tup {a : Addr} {xs : List V} {l : List D} : TupAt L ρ st H a xs → Reps L ρ st H xs l → Rep L ρ st H (.ref a) (.tup l)
  | lst {a : Addr} {xs : List V} {l : List D} : LstAt L ρ st H a xs → Reps L ρ st H xs l → Rep L ρ st H (.ref a) (.lst l)
  | ref {a : Addr} {n : Nat} : ρ.adr[n]? = some a → Rep L ρ st H (.ref a) (.ref n)
  | exc {a : Addr} {c : Nat} : H a = some (.ext (excPhi (L.ca c) a)) → Imm ρ st a → Rep L ρ st H (.ref a) (.exc c)
inductive Reps (L : Lk) (ρ : Ly) (st : TH.St) (H : Hp) : List V → List D → Prop
  | nil : Reps L ρ st H [] []
  | cons {v : V} {d : D} {vs : List V} {ds : List D} : Rep L ρ st H v d → Reps L ρ st H vs ds → Reps L ρ st H (v :: vs) (d :: ds)
end

/-- keys of a dict: whole numbers and texts; tuples of these -/
def keyD : D → Option Key
  | .int i => some (.inl i)
  | .str s => some (.inr ⟨s.toArray⟩)
  | _ => none
def keysD : List D → Option (List Key)
  | [] => some []
  | d :: ds => match keyD d, keysD ds with
    | some k, some ks => some (k :: ks)
    | _, _ => none
def tkeyD : D → Option (List Key)
  | .tup l => keysD l
  | _ => none
/-- the pairs of a dict -/
inductive KVs {κ : Type} (key : D → Option κ) (L : Lk) (ρ : Ly) (st : TH.St) (H : Hp) : List (κ × V) → List (D × D) → Prop
  | nil : KVs key L ρ st H [] []
  | cons {k : κ} {v : V} {dk d : D} {kvs : List (κ × V)} {ds : List (D × D)} : key dk = some k → Rep L ρ st H v d → KVs key L ρ st H kvs ds → KVs key L ρ st H ((k, v) :: kvs) ((dk, d) :: ds)
/-- an instance's attributes -/
inductive Flds (L : Lk) (ρ : Ly) (st : TH.St) (H : Hp) : List (Str × V) → List (Nat × D) → Prop
  | nil : Flds L ρ st H [] []
  | cons {f : Nat} {v : V} {d : D} {fs : List (Str × V)} {ds : List (Nat × D)} : Rep L ρ st H v d → Flds L ρ st H fs ds → Flds L ρ st H ((L.fld f, v) :: fs) ((f, d) :: ds)
/-- an object of the store at its address -/
def ObAt (L : Lk) (ρ : Ly) (st : TH.St) (H : Hp) (a : Addr) : Ob → Prop
  | .ml l => ∃ xs, H a = some (.lst xs) ∧ Reps L ρ st H xs l
  | .fz l => ∃ xs, H a = some (.lst xs) ∧ Reps L ρ st H xs l
  | .md false kvs => ∃ ks, H a = some (.dK ks) ∧ KVs keyD L ρ st H ks kvs
  | .md true kvs => ∃ ks, H a = some (.dT ks) ∧ KVs tkeyD L ρ st H ks kvs
  | .mdl false kvs => ∃ o ks, H a = some (.frz o (.dK ks)) ∧ KVs keyD L ρ st H ks kvs
  | .mdl true kvs => ∃ o ks, H a = some (.frz o (.dT ks)) ∧ KVs tkeyD L ρ st H ks kvs
  | .ins c fs => ∃ dx vs, H a = some (.ins (L.ca c) dx vs) ∧ Flds L ρ st H vs fs
/-- the store lies in the heap -/
structure Rel (L : Lk) (ρ : Ly) (st : TH.St) (H : Hp) : Prop where
  len : ρ.adr.length = st.length
  nd : ρ.adr.Nodup
  outs : ∀ a, a ∈ ρ.out → (∃ o, H a = some o) ∧ ∀ n : Nat, ρ.adr[n]? ≠ some a
  ob : ∀ (n : Nat) (a : Addr) (o : Ob), ρ.adr[n]? = some a → st[n]? = some o → ObAt L ρ st H a o
/-- what a step keeps -/
structure Ext (ρ : Ly) (st : TH.St) (H : Hp) (ρ' : Ly) (st' : TH.St) (H' : Hp) : Prop where
  pre : ∀ (n : Nat) (a : Addr), ρ.adr[n]? = some a → ρ'.adr[n]? = some a
  keep : ∀ (a : Addr) (o : HO), H a = some o → Imm ρ st a → H' a = some o ∧ Imm ρ' st' a
  out : ρ'.out = ρ.out
  outk : ∀ a, a ∈ ρ.out → H' a = H a

theorem Ext.refl {ρ : Ly} {st : TH.St} {H : Hp} : Ext ρ st H ρ st H := ⟨fun _ _ h => h, fun _ _ h i => ⟨h, i⟩, rfl, fun _ _ => rfl⟩
section
variable {L : Lk} {ρ ρ' ρ2 : Ly} {st st' st2 : TH.St} {H H' H2 : Hp}
theorem Ext.trans (e : Ext ρ st H ρ' st' H') (e2 : Ext ρ' st' H' ρ2 st2 H2) : Ext ρ st H ρ2 st2 H2 :=
  ⟨fun n a h => e2.pre n a (e.pre n a h), fun a o h i => let ⟨h1, i1⟩ := e.keep a o h i; e2.keep a o h1 i1, e2.out.trans e.out, fun a h => (e2.outk a (by rw [e.out]; exact h)).trans (e.outk a h)⟩
theorem Ext.rd (e : Ext ρ st H ρ' st' H') {a : Addr} {u : HO} (r : Rd H a u) (i : Imm ρ st a) : Rd H' a u ∧ Imm ρ' st' a := by
  rcases r with r | ⟨o, r⟩
  · have z := e.keep a _ r i
    exact ⟨.inl z.1, z.2⟩
  · have z := e.keep a _ r i
    exact ⟨.inr ⟨o, z.1⟩, z.2⟩
theorem Ext.lst (e : Ext ρ st H ρ' st' H') {a : Addr} {xs : List V} (h : LstAt L ρ st H a xs) : LstAt L ρ' st' H' a xs := by
  rcases h with ⟨r, i⟩ | h
  · exact .inl (e.rd r i)
  · exact .inr h
theorem Ext.tup (e : Ext ρ st H ρ' st' H') {a : Addr} {xs : List V} (h : TupAt L ρ st H a xs) : TupAt L ρ' st' H' a xs := e.keep _ _ h.1 h.2
mutual
theorem Rep.ext (e : Ext ρ st H ρ' st' H') : ∀ (d : D) (v : V), Rep L ρ st H v d → Rep L ρ' st' H' v d
  | .non, _, h => by cases h; exact .non
  | .bl _, _, h => by cases h; exact .bl _
  | .int _, _, h => by cases h; exact .int _
  | .str _, _, h => by cases h; exact .str _
  | .tup l, _, h => by
    cases h with
    | tup h1 h2 => exact .tup (e.tup h1) (Reps.ext e l _ h2)
  | .lst l, _, h => by
    cases h with
    | lst h1 h2 => exact .lst (e.lst h1) (Reps.ext e l _ h2)
  | .ref n, _, h => by
    cases h with
    | ref h1 => exact .ref (e.pre _ _ h1)
  | .exc c, _, h => by
    cases h with
    | exc h1 h2 =>
      have z := e.keep _ _ h1 h2
      exact .exc z.1 z.2
theorem Reps.ext (e : Ext ρ st H ρ' st' H') : ∀ (ds : List D) (vs : List V), Reps L ρ st H vs ds → Reps L ρ' st' H' vs ds
  | [], _, h => by cases h; exact .nil
  | d :: ds, _, h => by
    cases h with
    | cons h1 h2 => exact .cons (Rep.ext e d _ h1) (Reps.ext e ds _ h2)
end
theorem KVs.ext {κ : Type} {key : D → Option κ} (e : Ext ρ st H ρ' st' H') : ∀ {ks : List (κ × V)} {ds : List (D × D)}, KVs key L ρ st H ks ds → KVs key L ρ' st' H' ks ds
  | _, _, .nil => .nil
  | _, _, .cons h1 h2 h3 => .cons h1 (Rep.ext e _ _ h2) (KVs.ext e h3)
theorem Flds.ext (e : Ext ρ st H ρ' st' H') : ∀ {ks : List (Str × V)} {ds : List (Nat × D)}, Flds L ρ st H ks ds → Flds L ρ' st' H' ks ds
  | _, _, .nil => .nil
  | _, _, .cons h2 h3 => .cons (Rep.ext e _ _ h2) (Flds.ext e h3)
theorem KVs.length {κ : Type} {key : D → Option κ} : ∀ {ks : List (κ × V)} {ds : List (D × D)}, KVs key L ρ st H ks ds → ks.length = ds.length
  | _, _, .nil => rfl
  | _, _, .cons _ _ h => congrArg (· + 1) h.length
theorem Reps.length : ∀ {vs : List V} {ds : List D}, Reps L ρ st H vs ds → vs.length = ds.length
  | _, _, .nil => rfl
  | _, _, .cons _ h => congrArg (· + 1) h.length
theorem Reps.append : ∀ {vs ws : List V} {ds es : List D}, Reps L ρ st H vs ds → Reps L ρ st H ws es → Reps L ρ st H (vs ++ ws) (ds ++ es)
  | _, _, _, _, .nil, h => h
  | _, _, _, _, .cons h1 h2, h => .cons h1 (Reps.append h2 h)
theorem Reps.get : ∀ {vs : List V} {ds : List D} {i : Nat} {v : V}, Reps L ρ st H vs ds → vs[i]? = some v → ∃ d, ds[i]? = some d ∧ Rep L ρ st H v d
  | _, _, _, _, .nil, h => by simp at h
  | _, _, 0, _, .cons h1 h2, h => by simp at h; subst h; exact ⟨_, rfl, h1⟩
  | _, _, i + 1, _, .cons h1 h2, h => by simpa using Reps.get (i := i) h2 (by simpa using h)
theorem Reps.got : ∀ {vs : List V} {ds : List D} {i : Nat} {d : D}, Reps L ρ st H vs ds → ds[i]? = some d → ∃ v, vs[i]? = some v ∧ Rep L ρ st H v d
  | _, _, _, _, .nil, h => by simp at h
  | _, _, 0, _, .cons h1 h2, h => by simp at h; subst h; exact ⟨_, rfl, h1⟩
  | _, _, i + 1, _, .cons h1 h2, h => by simpa using Reps.got (i := i) h2 (by simpa using h)
theorem Reps.take : ∀ {vs : List V} {ds : List D} (n : Nat), Reps L ρ st H vs ds → Reps L ρ st H (vs.take n) (ds.take n)
  | _, _, 0, _ => .nil
  | _, _, _ + 1, .nil => .nil
  | _, _, n + 1, .cons h1 h2 => .cons h1 (Reps.take n h2)
theorem Reps.drop : ∀ {vs : List V} {ds : List D} (n : Nat), Reps L ρ st H vs ds → Reps L ρ st H (vs.drop n) (ds.drop n)
  | _, _, 0, h => h
  | _, _, _ + 1, .nil => .nil
  | _, _, n + 1, .cons h1 h2 => Reps.drop n h2
theorem Reps.set {v : V} {d : D} (h : Rep L ρ st H v d) : ∀ {vs : List V} {ds : List D} (n : Nat), Reps L ρ st H vs ds → Reps L ρ st H (vs.set n v) (ds.set n d)
  | _, _, _, .nil => .nil
  | _, _, 0, .cons _ h2 => .cons h h2
  | _, _, n + 1, .cons h1 h2 => .cons h1 (Reps.set h n h2)

/-! ### lists of the store, of data -/
theorem Rel.at (R : Rel L ρ st H) {n : Nat} {o : Ob} (h : st[n]? = some o) : ∃ a, ρ.adr[n]? = some a ∧ ObAt L ρ st H a o := by
  have hn : n < ρ.adr.length := by rw [R.len]; exact (List.getElem?_eq_some_iff.mp h).1
  exact ⟨ρ.adr[n], List.getElem?_eq_getElem hn, R.ob n _ o (List.getElem?_eq_getElem hn) h⟩
theorem LstAt.sq {a : Addr} {xs : List V} (h : LstAt L ρ st H a xs) : SqL L.K H a xs := by
  rcases h with ⟨h, _⟩ | h
  · exact .inl h
  · exact .inr h
theorem TupAt.sq {a : Addr} {xs : List V} (h : TupAt L ρ st H a xs) : SqT L.K H a xs := .inl (.inl h.1)
/-- what is a list in the evaluation lies as one -/
theorem asL_rep (R : Rel L ρ st H) {v : V} {d : D} {l : List D} (h : Rep L ρ st H v d) (e : asL st d = some l) :
    ∃ a xs, v = .ref a ∧ SqL L.K H a xs ∧ Reps L ρ st H xs l ∧ (H a = some (.lst xs) ∨ LstAt L ρ st H a xs) := by
  cases h with
  | lst h1 h2 =>
    simp only [asL, Option.some.injEq] at e
    subst e
    exact ⟨_, _, rfl, h1.sq, h2, .inr h1⟩
  | @ref a n h1 =>
    simp only [asL] at e
    cases hs : st[n]? with
    | none => rw [hs] at e; simp at e
    | some o =>
      have q := R.ob n a o h1 hs
      cases o with
      | ml l' =>
        rw [hs] at e
        simp only [Option.some.injEq] at e
        subst e
        obtain ⟨xs, q1, q2⟩ := q
        exact ⟨a, xs, rfl, SqL.of q1, q2, .inl q1⟩
      | fz l' =>
        rw [hs] at e
        simp only [Option.some.injEq] at e
        subst e
        obtain ⟨xs, q1, q2⟩ := q
        exact ⟨a, xs, rfl, SqL.of q1, q2, .inl q1⟩
      | md t kvs => rw [hs] at e; simp at e
      | mdl t kvs => rw [hs] at e; simp at e
      | ins c fs => rw [hs] at e; simp at e
  | _ => simp [asL] at e
/-! ### a new object beside the store -/
theorem ObAt.there {a : Addr} {o : Ob} (h : ObAt L ρ st H a o) : ∃ u, H a = some u := by
  cases o with
  | ml l => obtain ⟨xs, q, _⟩ := h; exact ⟨_, q⟩
  | fz l => obtain ⟨xs, q, _⟩ := h; exact ⟨_, q⟩
  | md t kvs => cases t <;> exact let ⟨_, q, _⟩ := h; ⟨_, q⟩
  | mdl t kvs => cases t <;> exact let ⟨_, _, q, _⟩ := h; ⟨_, q⟩
  | ins c fs => obtain ⟨dx, vs, q, _⟩ := h; exact ⟨_, q⟩
theorem Rel.there (R : Rel L ρ st H) {n : Nat} {a : Addr} (h : ρ.adr[n]? = some a) : ∃ u, H a = some u := by
  have hn : n < st.length := by rw [← R.len]; exact (List.getElem?_eq_some_iff.mp h).1
  exact (R.ob n a st[n] h (List.getElem?_eq_getElem hn)).there
theorem Rel.out (R : Rel L ρ st H) {p : Addr} (hp : H p = none) {n : Nat} : ρ.adr[n]? ≠ some p := fun h => by
  obtain ⟨u, q⟩ := R.there h
  rw [hp] at q; cases q
theorem Rel.noout (R : Rel L ρ st H) {p : Addr} (hp : H p = none) : p ∉ ρ.out := fun h => by
  obtain ⟨⟨o, q⟩, _⟩ := R.outs p h
  rw [hp] at q; cases q
theorem Rel.neout (R : Rel L ρ st H) {p a : Addr} (hp : H p = none) (h : a ∈ ρ.out) : a ≠ p := fun e => R.noout hp (e ▸ h)
theorem Rel.neat (R : Rel L ρ st H) {a b : Addr} {n : Nat} (ha : ρ.adr[n]? = some a) (h : b ∈ ρ.out) : b ≠ a := fun e => (R.outs b h).2 n (e ▸ ha)
theorem imm_new (R : Rel L ρ st H) {p : Addr} (hp : H p = none) : Imm ρ st p := ⟨R.noout hp, fun n hn => absurd hn (R.out hp)⟩
theorem ext_new {p : Addr} {o : HO} (R : Rel L ρ st H) (hp : H p = none) : Ext ρ st H ρ st (upd H p o) :=
  ⟨fun _ _ h => h, fun a o' h i => ⟨by rw [upd_ne (ne_of_none h hp)]; exact h, i⟩, rfl, fun a h => upd_ne fun e => R.noout hp (e ▸ h)⟩
/-- an object's description under an extension that leaves its own place -/
theorem ObAt.ext (e : Ext ρ st H ρ' st' H') {a : Addr} {o : Ob} (h : ObAt L ρ st H a o) (ha : H' a = H a) : ObAt L ρ' st' H' a o := by
  cases o with
  | ml l => obtain ⟨xs, q, r⟩ := h; exact ⟨xs, ha.trans q, Reps.ext e _ _ r⟩
  | fz l => obtain ⟨xs, q, r⟩ := h; exact ⟨xs, ha.trans q, Reps.ext e _ _ r⟩
  | md t kvs => cases t <;> exact let ⟨ks, q, r⟩ := h; ⟨ks, ha.trans q, r.ext e⟩
  | mdl t kvs => cases t <;> exact let ⟨o, ks, q, r⟩ := h; ⟨o, ks, ha.trans q, r.ext e⟩
  | ins c fs => obtain ⟨dx, vs, q, r⟩ := h; exact ⟨dx, vs, ha.trans q, r.ext e⟩
theorem rel_new {p : Addr} {o : HO} (R : Rel L ρ st H) (hp : H p = none) : Rel L ρ st (upd H p o) :=
  ⟨R.len, R.nd, fun a h => ⟨by rw [upd_ne (R.neout hp h)]; exact (R.outs a h).1, (R.outs a h).2⟩, fun n a ob h1 h2 => (R.ob n a ob h1 h2).ext (ext_new R hp) (by
    rw [upd_ne]
    intro e
    subst e
    exact R.out hp h1)⟩
/-- a new object that joins the store -/
def Ly.add (ρ : Ly) (p : Addr) : Ly := ⟨ρ.adr ++ [p], ρ.out⟩
theorem ext_join {p : Addr} {o : HO} {ob : Ob} (R : Rel L ρ st H) (hp : H p = none) : Ext ρ st H (ρ.add p) (st ++ [ob]) (upd H p o) := by
  refine ⟨fun n a h => ?_, fun a o' h i => ⟨by rw [upd_ne (ne_of_none h hp)]; exact h, i.1, fun n hn => ?_⟩, rfl, fun a h => upd_ne fun e => R.noout hp (e ▸ h)⟩
  · show (ρ.adr ++ [p])[n]? = some a
    rw [List.getElem?_append_left (List.getElem?_eq_some_iff.mp h).1]; exact h
  · have hn : (ρ.adr ++ [p])[n]? = some a := hn
    by_cases hl : n < ρ.adr.length
    · rw [List.getElem?_append_left hl] at hn
      obtain ⟨l, q, hq⟩ := i.2 n hn
      exact ⟨l, by rw [List.getElem?_append_left (by rw [← R.len]; exact hl)]; exact q, hq⟩
    · rw [List.getElem?_append_right (Nat.le_of_not_lt hl)] at hn
      have : p = a := by
        cases hk : n - ρ.adr.length with
        | zero => rw [hk] at hn; simpa using hn
        | succ m => rw [hk] at hn; simp at hn
      subst this
      rw [hp] at h; cases h
theorem add_at {p a : Addr} {n : Nat} (h : (ρ.add p).adr[n]? = some a) : ρ.adr[n]? = some a ∨ (n = ρ.adr.length ∧ a = p) := by
  have h : (ρ.adr ++ [p])[n]? = some a := h
  by_cases hl : n < ρ.adr.length
  · rw [List.getElem?_append_left hl] at h
    exact .inl h
  · rw [List.getElem?_append_right (Nat.le_of_not_lt hl)] at h
    cases hk : n - ρ.adr.length with
    | zero =>
      rw [hk] at h
      simp only [List.getElem?_cons_zero, Option.some.injEq] at h
      exact .inr ⟨by omega, h.symm⟩
    | succ m => rw [hk] at h; simp at h
theorem rel_join {p : Addr} {o : HO} {ob : Ob} (R : Rel L ρ st H) (hp : H p = none) (h : ObAt L (ρ.add p) (st ++ [ob]) (upd H p o) p ob) : Rel L (ρ.add p) (st ++ [ob]) (upd H p o) := by
  refine ⟨by simp [Ly.add, R.len], ?_, fun a h => ⟨?_, fun n hn => ?_⟩, fun n a o' h1 h2 => ?_⟩
  · show (ρ.adr ++ [p]).Nodup
    rw [List.nodup_append]
    refine ⟨R.nd, by simp, fun a ha b hb => ?_⟩
    rw [List.mem_singleton] at hb
    subst hb
    intro e
    subst e
    obtain ⟨i, hi, e⟩ := List.mem_iff_getElem.mp ha
    exact R.out hp (n := i) (by rw [List.getElem?_eq_getElem hi, e])
  · rw [upd_ne (R.neout hp h)]
    exact (R.outs a h).1
  · rcases add_at hn with z | ⟨_, z⟩
    · exact (R.outs a h).2 n z
    · subst z
      exact R.noout hp h
  · rcases add_at h1 with z | ⟨z1, z2⟩
    · have hl : n < st.length := by rw [← R.len]; exact (List.getElem?_eq_some_iff.mp z).1
      rw [List.getElem?_append_left hl] at h2
      refine (R.ob n a o' z h2).ext (ext_join R hp) ?_
      rw [upd_ne]
      intro e
      subst e
      exact R.out hp z
    · subst z1 z2
      rw [R.len, List.getElem?_append_right (Nat.le_refl _)] at h2
      simp only [Nat.sub_self, List.getElem?_cons_zero, Option.some.injEq] at h2
      subst h2
      exact h
/-- an object of the store is changed -/
theorem nodup_at {α : Type} {l : List α} (h : l.Nodup) {m n : Nat} {a : α} (h1 : l[m]? = some a) (h2 : l[n]? = some a) : m = n := by
  obtain ⟨i1, e1⟩ := List.getElem?_eq_some_iff.mp h1
  obtain ⟨i2, e2⟩ := List.getElem?_eq_some_iff.mp h2
  exact (List.getElem_inj h).mp (e1.trans e2.symm)
theorem ext_set {n : Nat} {a : Addr} {o : HO} {ob ob0 : Ob} (R : Rel L ρ st H) (ha : ρ.adr[n]? = some a) (h0 : st[n]? = some ob0) (hf : ob0.still → False) : Ext ρ st H ρ (st.set n ob) (upd H a o) := by
  refine ⟨fun _ _ h => h, fun b o' h i => ?_, rfl, fun b h => upd_ne fun e => (R.outs b h).2 n (e ▸ ha)⟩
  have hb : b ≠ a := fun e => by
    subst e
    obtain ⟨l, q, hq⟩ := i.2 n ha
    rw [h0] at q
    cases q
    exact hf hq
  refine ⟨by rw [upd_ne hb]; exact h, i.1, fun m hm => ?_⟩
  obtain ⟨l, q, hq⟩ := i.2 m hm
  refine ⟨l, ?_, hq⟩
  rw [List.getElem?_set_ne]
  · exact q
  · intro e
    subst e
    rw [ha] at hm
    exact hb (Option.some.inj hm).symm
theorem rel_set {n : Nat} {a : Addr} {o : HO} {ob ob0 : Ob} (R : Rel L ρ st H) (ha : ρ.adr[n]? = some a) (h0 : st[n]? = some ob0) (hf : ob0.still → False) (h : ObAt L ρ (st.set n ob) (upd H a o) a ob) : Rel L ρ (st.set n ob) (upd H a o) := by
  refine ⟨by simp [R.len], R.nd, fun b h => ⟨by rw [upd_ne (R.neat ha h)]; exact (R.outs b h).1, (R.outs b h).2⟩, fun m b o' h1 h2 => ?_⟩
  by_cases e : m = n
  · subst e
    rw [ha] at h1
    have hl : m < st.length := (List.getElem?_eq_some_iff.mp h0).1
    rw [List.getElem?_set_self hl] at h2
    cases h1; cases h2
    exact h
  · rw [List.getElem?_set_ne (Ne.symm e)] at h2
    refine (R.ob m b o' h1 h2).ext (ext_set R ha h0 hf) ?_
    rw [upd_ne]
    intro z
    subst z
    exact e (nodup_at R.nd h1 ha)
/-- a list of the store is frozen -/
theorem ext_frz {n : Nat} {l : List D} (h0 : st[n]? = some (.ml l)) : Ext ρ st H ρ (st.set n (.fz l)) H := by
  refine ⟨fun _ _ h => h, fun b o' h i => ⟨h, i.1, fun m hm => ?_⟩, rfl, fun _ _ => rfl⟩
  obtain ⟨l', q, hq⟩ := i.2 m hm
  by_cases e : m = n
  · subst e
    exact ⟨.fz l, List.getElem?_set_self (List.getElem?_eq_some_iff.mp h0).1, trivial⟩
  · exact ⟨l', by rw [List.getElem?_set_ne (Ne.symm e)]; exact q, hq⟩
theorem rel_frz {n : Nat} {l : List D} (R : Rel L ρ st H) (h0 : st[n]? = some (.ml l)) : Rel L ρ (st.set n (.fz l)) H := by
  refine ⟨by simp [R.len], R.nd, R.outs, fun m b o' h1 h2 => ?_⟩
  by_cases e : m = n
  · subst e
    have hl : m < st.length := (List.getElem?_eq_some_iff.mp h0).1
    rw [List.getElem?_set_self hl] at h2
    cases h2
    obtain ⟨xs, q1, q2⟩ := R.ob m b _ h1 h0
    exact ⟨xs, q1, Reps.ext (ext_frz h0) _ _ q2⟩
  · rw [List.getElem?_set_ne (Ne.symm e)] at h2
    exact (R.ob m b o' h1 h2).ext (ext_frz h0) rfl
/-! ### one address left out -/
def less (H : Hp) (p : Addr) : Hp := fun b => if b = p then none else H b
theorem less_ne {p b : Addr} (h : b ≠ p) : less H p b = H b := by unfold less; rw [if_neg h]
theorem less_same {p : Addr} : less H p p = none := by unfold less; rw [if_pos rfl]
theorem less_upd {p : Addr} {o : HO} (h : H p = some o) : upd (less H p) p o = H := by
  funext b
  by_cases e : b = p
  · subst e; rw [upd_same, h]
  · rw [upd_ne e, less_ne e]
/-- from the layout with p left out to the heap without it -/
def Ly.less (ρ : Ly) (o : List Addr) : Ly := ⟨ρ.adr, o⟩
theorem imm_less {p a : Addr} {o : List Addr} (ho : ρ.out = p :: o) (i : Imm ρ st a) : a ≠ p ∧ Imm (ρ.less o) st a := by
  have h := i.1
  rw [ho, List.mem_cons, not_or] at h
  exact ⟨h.1, h.2, i.2⟩
theorem rd_less {p a : Addr} {u : HO} (h : a ≠ p) (r : Rd H a u) : Rd (TH.less H p) a u := by
  rcases r with r | ⟨o, r⟩
  · exact .inl (by rw [less_ne h]; exact r)
  · exact .inr ⟨o, by rw [less_ne h]; exact r⟩
mutual
theorem Rep.less {p : Addr} {o : List Addr} (ho : ρ.out = p :: o) : ∀ (d : D) (v : V), Rep L ρ st H v d → Rep L (ρ.less o) st (TH.less H p) v d
  | .non, _, h => by cases h; exact .non
  | .bl _, _, h => by cases h; exact .bl _
  | .int _, _, h => by cases h; exact .int _
  | .str _, _, h => by cases h; exact .str _
  | .tup l, _, h => by
    cases h with
    | tup h1 h2 =>
      exact .tup ⟨by rw [less_ne (imm_less ho h1.2).1]; exact h1.1, (imm_less ho h1.2).2⟩ (Reps.less ho l _ h2)
  | .lst l, _, h => by
    cases h with
    | lst h1 h2 =>
      refine .lst ?_ (Reps.less ho l _ h2)
      rcases h1 with ⟨r, i⟩ | h1
      · exact .inl ⟨rd_less (imm_less ho i).1 r, (imm_less ho i).2⟩
      · exact .inr h1
  | .ref n, _, h => by
    cases h with
    | ref h1 => exact .ref h1
  | .exc c, _, h => by
    cases h with
    | exc h1 h2 => exact .exc (by rw [less_ne (imm_less ho h2).1]; exact h1) (imm_less ho h2).2
theorem Reps.less {p : Addr} {o : List Addr} (ho : ρ.out = p :: o) : ∀ (ds : List D) (vs : List V), Reps L ρ st H vs ds → Reps L (ρ.less o) st (TH.less H p) vs ds
  | [], _, h => by cases h; exact .nil
  | d :: ds, _, h => by
    cases h with
    | cons h1 h2 => exact .cons (Rep.less ho d _ h1) (Reps.less ho ds _ h2)
end
theorem KVs.less {κ : Type} {key : D → Option κ} {p : Addr} {o : List Addr} (ho : ρ.out = p :: o) : ∀ {ks : List (κ × V)} {ds : List (D × D)}, KVs key L ρ st H ks ds → KVs key L (ρ.less o) st (TH.less H p) ks ds
  | _, _, .nil => .nil
  | _, _, .cons h1 h2 h3 => .cons h1 (Rep.less ho _ _ h2) (KVs.less ho h3)
theorem Flds.less {p : Addr} {o : List Addr} (ho : ρ.out = p :: o) : ∀ {ks : List (Str × V)} {ds : List (Nat × D)}, Flds L ρ st H ks ds → Flds L (ρ.less o) st (TH.less H p) ks ds
  | _, _, .nil => .nil
  | _, _, .cons h2 h3 => .cons (Rep.less ho _ _ h2) (Flds.less ho h3)
theorem ObAt.less {p a : Addr} {o : List Addr} (ho : ρ.out = p :: o) (ha : a ≠ p) {ob : Ob} (h : ObAt L ρ st H a ob) : ObAt L (ρ.less o) st (TH.less H p) a ob := by
  cases ob with
  | ml l => obtain ⟨xs, q, r⟩ := h; exact ⟨xs, (less_ne ha).trans q, Reps.less ho _ _ r⟩
  | fz l => obtain ⟨xs, q, r⟩ := h; exact ⟨xs, (less_ne ha).trans q, Reps.less ho _ _ r⟩
  | md t kvs => cases t <;> exact let ⟨ks, q, r⟩ := h; ⟨ks, (less_ne ha).trans q, r.less ho⟩
  | mdl t kvs => cases t <;> exact let ⟨o, ks, q, r⟩ := h; ⟨o, ks, (less_ne ha).trans q, r.less ho⟩
  | ins c fs => obtain ⟨dx, vs, q, r⟩ := h; exact ⟨dx, vs, (less_ne ha).trans q, r.less ho⟩
theorem Rel.less {p : Addr} {o : List Addr} (ho : ρ.out = p :: o) (hp : p ∉ o) (R : Rel L ρ st H) : Rel L (ρ.less o) st (TH.less H p) := by
  have hm : p ∈ ρ.out := by rw [ho]; exact List.mem_cons_self
  refine ⟨R.len, R.nd, fun a ha => ?_, fun n a ob h1 h2 => (R.ob n a ob h1 h2).less ho fun e => (R.outs p hm).2 n (e ▸ h1)⟩
  have ha' : a ∈ ρ.out := by rw [ho]; exact List.mem_cons_of_mem _ ha
  refine ⟨?_, (R.outs a ha').2⟩
  rw [less_ne (show a ≠ p from fun e => hp (e ▸ ha))]
  exact (R.outs a ha').1
/-- the way in: a new object, left out -/
def Ly.more (ρ : Ly) (p : Addr) : Ly := ⟨ρ.adr, p :: ρ.out⟩
theorem imm_more {p a : Addr} (h : a ≠ p) (i : Imm ρ st a) : Imm (ρ.more p) st a := ⟨by
  show a ∉ p :: ρ.out
  rw [List.mem_cons, not_or]
  exact ⟨h, i.1⟩, i.2⟩
theorem rd_there {a : Addr} {u : HO} (r : Rd H a u) : ∃ o, H a = some o := by
  rcases r with r | ⟨o, r⟩
  · exact ⟨_, r⟩
  · exact ⟨_, r⟩
theorem rd_new {p a : Addr} {u o : HO} (hp : H p = none) (r : Rd H a u) : a ≠ p ∧ Rd (upd H p o) a u := by
  obtain ⟨z, q⟩ := rd_there r
  have h := ne_of_none q hp
  rcases r with r | ⟨o', r⟩
  · exact ⟨h, .inl (by rw [upd_ne h]; exact r)⟩
  · exact ⟨h, .inr ⟨o', by rw [upd_ne h]; exact r⟩⟩
mutual
theorem Rep.more {p : Addr} {o : HO} (hp : H p = none) : ∀ (d : D) (v : V), Rep L ρ st H v d → Rep L (ρ.more p) st (upd H p o) v d
  | .non, _, h => by cases h; exact .non
  | .bl _, _, h => by cases h; exact .bl _
  | .int _, _, h => by cases h; exact .int _
  | .str _, _, h => by cases h; exact .str _
  | .tup l, _, h => by
    cases h with
    | tup h1 h2 =>
      have z := ne_of_none h1.1 hp
      exact .tup ⟨by rw [upd_ne z]; exact h1.1, imm_more z h1.2⟩ (Reps.more hp l _ h2)
  | .lst l, _, h => by
    cases h with
    | lst h1 h2 =>
      refine .lst ?_ (Reps.more hp l _ h2)
      rcases h1 with ⟨r, i⟩ | h1
      · exact .inl ⟨(rd_new hp r).2, imm_more (rd_new (o := o) hp r).1 i⟩
      · exact .inr h1
  | .ref n, _, h => by
    cases h with
    | ref h1 => exact .ref h1
  | .exc c, _, h => by
    cases h with
    | exc h1 h2 =>
      have z := ne_of_none h1 hp
      exact .exc (by rw [upd_ne z]; exact h1) (imm_more z h2)
theorem Reps.more {p : Addr} {o : HO} (hp : H p = none) : ∀ (ds : List D) (vs : List V), Reps L ρ st H vs ds → Reps L (ρ.more p) st (upd H p o) vs ds
  | [], _, h => by cases h; exact .nil
  | d :: ds, _, h => by
    cases h with
    | cons h1 h2 => exact .cons (Rep.more hp d _ h1) (Reps.more hp ds _ h2)
end
theorem KVs.more {κ : Type} {key : D → Option κ} {p : Addr} {o : HO} (hp : H p = none) : ∀ {ks : List (κ × V)} {ds : List (D × D)}, KVs key L ρ st H ks ds → KVs key L (ρ.more p) st (upd H p o) ks ds
  | _, _, .nil => .nil
  | _, _, .cons h1 h2 h3 => .cons h1 (Rep.more hp _ _ h2) (KVs.more hp h3)
theorem Flds.more {p : Addr} {o : HO} (hp : H p = none) : ∀ {ks : List (Str × V)} {ds : List (Nat × D)}, Flds L ρ st H ks ds → Flds L (ρ.more p) st (upd H p o) ks ds
  | _, _, .nil => .nil
  | _, _, .cons h2 h3 => .cons (Rep.more hp _ _ h2) (Flds.more hp h3)
theorem ObAt.more {p a : Addr} {o : HO} (hp : H p = none) (ha : a ≠ p) {ob : Ob} (h : ObAt L ρ st H a ob) : ObAt L (ρ.more p) st (upd H p o) a ob := by
  cases ob with
  | ml l => obtain ⟨xs, q, r⟩ := h; exact ⟨xs, (upd_ne ha).trans q, Reps.more hp _ _ r⟩
  | fz l => obtain ⟨xs, q, r⟩ := h; exact ⟨xs, (upd_ne ha).trans q, Reps.more hp _ _ r⟩
  | md t kvs => cases t <;> exact let ⟨ks, q, r⟩ := h; ⟨ks, (upd_ne ha).trans q, r.more hp⟩
  | mdl t kvs => cases t <;> exact let ⟨o, ks, q, r⟩ := h; ⟨o, ks, (upd_ne ha).trans q, r.more hp⟩
  | ins c fs => obtain ⟨dx, vs, q, r⟩ := h; exact ⟨dx, vs, (upd_ne ha).trans q, r.more hp⟩
theorem Rel.more {p : Addr} {o : HO} (hp : H p = none) (R : Rel L ρ st H) : Rel L (ρ.more p) st (upd H p o) := by
  refine ⟨R.len, R.nd, fun a ha => ?_, fun n a ob h1 h2 => (R.ob n a ob h1 h2).more hp fun e => R.out hp (e ▸ h1)⟩
  have ha : a ∈ p :: ρ.out := ha
  rcases List.mem_cons.mp ha with e | ha
  · subst e
    exact ⟨⟨o, upd_same⟩, fun n hn => R.out hp hn⟩
  · refine ⟨?_, (R.outs a ha).2⟩
    rw [upd_ne (R.neout hp ha)]
    exact (R.outs a ha).1
end
end TH
end
section
set_option Elab.async false
set_option linter.all false
set_option autoImplicit false
set_option maxRecDepth 100000
/-! TH2: the rules of expressions. -/
namespace TH
open PySem L2 TL

abbrev Sl := L2.St
/-- the frame's slots lie as the evaluation's -/
structure REnv (L : Lk) (ρ : Ly) (st : St) (H : Hp) (σ : Sl) (env : Env) : Prop where
  len : env.length = σ.length
  at_ : ∀ (i : Nat) (d : D), env[i]? = some (some d) → ∃ v, σ[i]? = some (some v) ∧ Rep L ρ st H v d

/-- what is wanted of an evaluation's end -/
abbrev Fn (α : Type) := α → Ly → St → Hp → Prop
def PostR {α : Type} (L : Lk) (W : WX) (σ : Sl) (F : Fn α) (ρ : Ly) (st : St) (H : Hp) : RR α → Prop
  | .ok a st' => ∀ (ρ' : Ly) (H' : Hp), Ext ρ st H ρ' st' H' → Rel L ρ' st' H' → F a ρ' st' H'
  | .exn c st' => ∀ (ρ' : Ly) (H' : Hp), Ext ρ st H ρ' st' H' → Rel L ρ' st' H' → W (.ref (L.ca c)) none σ H'
  | .stuck => False
def fE (L : Lk) (Q : VK) : Fn D := fun d ρ st H => ∀ v, Rep L ρ st H v d → Q v H
def fA (L : Lk) (Q : List V → Hp → Prop) : Fn (List D) := fun d ρ st H => ∀ v, Reps L ρ st H v d → Q v H
/-- a new list, at any free place -/
def fL (L : Lk) (Q : VK) : Fn (List D) := fun d ρ st H => ∀ v p, Reps L ρ st H v d → H p = none → Q (.ref p) (upd H p (.lst v))
def fT (Q : Bool → Hp → Prop) : Fn D := fun d ρ st H => ∃ b, truthy st d = some b ∧ Q b H
def wR {α : Type} (L : Lk) (W : WX) (f : Env → St → RR α) (σ : Sl) (H : Hp) (F : Fn α) : Prop := ∃ ρ st env, Rel L ρ st H ∧ REnv L ρ st H σ env ∧ PostR L W σ F ρ st H (f env st)
def wE (L : Lk) (W : WX) (f : EM) : TE := fun σ H Q => wR L W f σ H (fE L Q)
def wA (L : Lk) (W : WX) (f : AM) : TA := fun σ H Q => wR L W f σ H (fA L Q)
def wL (L : Lk) (W : WX) (f : LM) : TE := fun σ H Q => wR L W f σ H (fL L Q)
def wT (L : Lk) (W : WX) (f : EM) : TT := fun σ H Q => wR L W f σ H (fT Q)

section
variable {α β : Type} {L : Lk} {W : WX} {ρ ρ1 ρ' : Ly} {st st1 st' : St} {H H1 H' : Hp} {σ : Sl} {env : Env} {Q : VK}
theorem REnv.ext (r : REnv L ρ st H σ env) (e : Ext ρ st H ρ1 st1 H1) : REnv L ρ1 st1 H1 σ env :=
  ⟨r.len, fun i d h => let ⟨v, h1, h2⟩ := r.at_ i d h; ⟨v, h1, Rep.ext e _ _ h2⟩⟩
theorem REnv.set (r : REnv L ρ st H σ env) {v : V} {d : D} (h : Rep L ρ st H v d) (i : Nat) : REnv L ρ st H (σ.set i (some v)) (env.set i (some d)) := by
  refine ⟨by simp [r.len], fun j x hx => ?_⟩
  by_cases e : i = j
  · subst e
    by_cases hl : i < env.length
    · rw [List.getElem?_set_self hl] at hx
      cases hx
      exact ⟨v, List.getElem?_set_self (by rw [← r.len]; exact hl), h⟩
    · rw [List.getElem?_eq_none (by simpa using hl)] at hx
      cases hx
  · rw [List.getElem?_set_ne e] at hx ⊢
    exact r.at_ j x hx
theorem REnv.unset (r : REnv L ρ st H σ env) (i : Nat) : REnv L ρ st H (σ.set i none) (env.set i none) := by
  refine ⟨by simp [r.len], fun j x hx => ?_⟩
  by_cases e : i = j
  · subst e
    by_cases hl : i < env.length
    · rw [List.getElem?_set_self hl] at hx
      cases hx
    · rw [List.getElem?_eq_none (by simpa using hl)] at hx
      cases hx
  · rw [List.getElem?_set_ne e] at hx ⊢
    exact r.at_ j x hx
theorem REnv.wipe (r : REnv L ρ st H σ env) : ∀ vs : List Nat, REnv L ρ st H (L2.wipe σ vs) (TH.wipe env vs)
  | [] => r
  | v :: vs => (REnv.wipe r vs).unset v

theorem PostR.ext {F : Fn α} {r : RR α} (h : PostR L W σ F ρ st H r) (e : Ext ρ st H ρ1 st1 H1) : PostR L W σ F ρ1 st1 H1 r := by
  cases r with
  | ok d st' => exact fun ρ' H' e2 => h ρ' H' (e.trans e2)
  | exn c st' => exact fun ρ' H' e2 => h ρ' H' (e.trans e2)
  | stuck => exact h
theorem PostR.mono {F G : Fn α} {r : RR α} (i : ∀ a ρ' st' H', Ext ρ st H ρ' st' H' → Rel L ρ' st' H' → F a ρ' st' H' → G a ρ' st' H') (h : PostR L W σ F ρ st H r) : PostR L W σ G ρ st H r := by
  cases r with
  | ok d st' => exact fun ρ' H' e R => i _ _ _ _ e R (h ρ' H' e R)
  | exn c st' => exact h
  | stuck => exact h
theorem PostR.bind {F : Fn β} {r : RR α} {k : α → St → RR β} (h : PostR L W σ F ρ st H (r.bind k)) :
    PostR L W σ (fun a ρ1 st1 H1 => Ext ρ st H ρ1 st1 H1 ∧ Rel L ρ1 st1 H1 ∧ PostR L W σ F ρ1 st1 H1 (k a st1)) ρ st H r := by
  cases r with
  | ok d st' => exact fun ρ' H' e R => ⟨e, R, PostR.ext h e⟩
  | exn c st' => exact h
  | stuck => exact h
/-- the value that an evaluation gives is at hand -/
theorem PostR.here {F : Fn α} {a : α} (h : PostR L W σ F ρ st H (.ok a st)) (R : Rel L ρ st H) : F a ρ st H := h ρ H Ext.refl R
theorem wR.mono {f : Env → St → RR α} {F G : Fn α} (i : ∀ a ρ' st' H', Rel L ρ' st' H' → F a ρ' st' H' → G a ρ' st' H') (h : wR L W f σ H F) : wR L W f σ H G := by
  obtain ⟨ρ, st, env, R, N, h⟩ := h
  exact ⟨ρ, st, env, R, N, PostR.mono (fun a ρ' st' H' _ R q => i a ρ' st' H' R q) h⟩
/-- the part f of an evaluation, then k -/
theorem wR_bind {f : Env → St → RR α} {F : Fn β} {k : α → St → RR β} (R : Rel L ρ st H) (N : REnv L ρ st H σ env) (h : PostR L W σ F ρ st H ((f env st).bind k)) :
    wR L W f σ H fun a ρ1 st1 H1 => Ext ρ st H ρ1 st1 H1 ∧ Rel L ρ1 st1 H1 ∧ REnv L ρ1 st1 H1 σ env ∧ PostR L W σ F ρ1 st1 H1 (k a st1) :=
  ⟨ρ, st, env, R, N, PostR.mono (fun _ _ _ _ _ _ q => ⟨q.1, q.2.1, N.ext q.1, q.2.2⟩) (PostR.bind h)⟩
theorem wE_bind {f : EM} {F : Fn β} {k : D → St → RR β} (R : Rel L ρ st H) (N : REnv L ρ st H σ env) (h : PostR L W σ F ρ st H ((f env st).bind k)) :
    wE L W f σ H fun v H1 => ∃ ρ1 st1 d, Ext ρ st H ρ1 st1 H1 ∧ Rel L ρ1 st1 H1 ∧ REnv L ρ1 st1 H1 σ env ∧ Rep L ρ1 st1 H1 v d ∧ PostR L W σ F ρ1 st1 H1 (k d st1) :=
  wR.mono (fun a ρ' st' H' _ q v r => ⟨ρ', st', a, q.1, q.2.1, q.2.2.1, r, q.2.2.2⟩) (wR_bind R N h)
theorem wA_bind {f : AM} {F : Fn β} {k : List D → St → RR β} (R : Rel L ρ st H) (N : REnv L ρ st H σ env) (h : PostR L W σ F ρ st H ((f env st).bind k)) :
    wA L W f σ H fun v H1 => ∃ ρ1 st1 d, Ext ρ st H ρ1 st1 H1 ∧ Rel L ρ1 st1 H1 ∧ REnv L ρ1 st1 H1 σ env ∧ Reps L ρ1 st1 H1 v d ∧ PostR L W σ F ρ1 st1 H1 (k d st1) :=
  wR.mono (fun a ρ' st' H' _ q v r => ⟨ρ', st', a, q.1, q.2.1, q.2.2.1, r, q.2.2.2⟩) (wR_bind R N h)
theorem wE.mono {f : EM} {Q Q' : VK} (i : ∀ v H, Q v H → Q' v H) (h : wE L W f σ H Q) : wE L W f σ H Q' := wR.mono (fun a ρ' st' H' _ q v r => i v H' (q v r)) h
theorem wA.mono {f : AM} {Q Q' : List V → Hp → Prop} (i : ∀ v H, Q v H → Q' v H) (h : wA L W f σ H Q) : wA L W f σ H Q' := wR.mono (fun a ρ' st' H' _ q v r => i v H' (q v r)) h
theorem wL.mono {f : LM} {Q Q' : VK} (i : ∀ v H, Q v H → Q' v H) (h : wL L W f σ H Q) : wL L W f σ H Q' := wR.mono (fun a ρ' st' H' _ q v p r n => i _ _ (q v p r n)) h
theorem wT.mono {f : EM} {Q Q' : Bool → Hp → Prop} (i : ∀ v H, Q v H → Q' v H) (h : wT L W f σ H Q) : wT L W f σ H Q' := wR.mono (fun a ρ' st' H' _ ⟨b, e, q⟩ => ⟨b, e, i _ _ q⟩) h
end

/-! ### weakening -/
theorem PE.imp {X : Cx} {e : Expr} {t t' : TE} (h : PE X e t) (i : ∀ σ H Q, t' σ H Q → t σ H Q) : PE X e t' := ⟨fun pins s σ H Q I q => h.run pins s σ H Q I (i σ H Q q)⟩
theorem PT.imp {X : Cx} {e : Expr} {t t' : TT} (h : PT X e t) (i : ∀ σ H Q, t' σ H Q → t σ H Q) : PT X e t' := ⟨fun pins s σ H Q I q => h.run pins s σ H Q I (i σ H Q q)⟩
theorem PW.imp {X : Cx} {e : Expr} {t t' : TT} (h : PW X e t) (i : ∀ σ H Q, t' σ H Q → t σ H Q) : PW X e t' := ⟨fun wh pins s σ H Q I q => h.run wh pins s σ H Q I (i σ H Q q)⟩
theorem PA.imp {X : Cx} {e : List Expr} {t t' : TA} (h : PA X e t) (i : ∀ σ H Q, t' σ H Q → t σ H Q) : PA X e t' := ⟨fun pos pins s σ H Q I q => h.run pos pins s σ H Q I (i σ H Q q)⟩
theorem PS.imp {X : Cx} {e : Stmt} {t t' : TS} (h : PS X e t) (i : ∀ D σ H, t' D σ H → t D σ H) : PS X e t' := ⟨fun pins s σ H Q I q => h.run pins s σ H Q I (i Q σ H q)⟩
theorem PSs.imp {X : Cx} {e : List Stmt} {t t' : TS} (h : PSs X e t) (i : ∀ D σ H, t' D σ H → t D σ H) : PSs X e t' := ⟨fun pins s σ H Q I q => h.run pins s σ H Q I (i Q σ H q)⟩
theorem OpR.imp {X : Cx} {f : Value → Value → Sem Value} {r r' : R2} (h : OpR X f r) (i : ∀ x y H Q, r' x y H Q → r x y H Q) : OpR X f r' := fun pins s σ H x y v u Q I r1 r2 q => h pins s σ H x y v u Q I r1 r2 (i x y H Q q)
theorem IxR.imp {X : Cx} {r r' : R2} (h : IxR X r) (i : ∀ x y H Q, r' x y H Q → r x y H Q) : IxR X r' := fun a b pins s σ H x y v u Q I r1 r2 q => h a b pins s σ H x y v u Q I r1 r2 (i x y H Q q)
theorem MtR.imp {X : Cx} {id : String} {r r' : V → List V → Hp → VK → Prop} (h : MtR X id r) (i : ∀ x y H Q, r' x y H Q → r x y H Q) : MtR X id r' := fun pins s σ H x y v u Q I r1 r2 q => h pins s σ H x y v u Q I r1 r2 (i x y H Q q)
theorem CallR.imp {X : Cx} {f : Value} {r r' : List V → Hp → VK → Prop} (h : CallR X f r) (i : ∀ x H Q, r' x H Q → r x H Q) : CallR X f r' := fun pins s σ H x u Q I r1 q => h pins s σ H x u Q I r1 (i x H Q q)

/-- a two-place operation by its data: the reading -/
def VOp (L : Lk) (o : Op2) : R2 := fun x y H Q => ∃ ρ st a b d, Rel L ρ st H ∧ Rep L ρ st H x a ∧ Rep L ρ st H y b ∧ o a b st = some d ∧
  ∀ (ρ' : Ly) (H' : Hp) (v : V), Ext ρ st H ρ' st H' → Rel L ρ' st H' → Rep L ρ' st H' v d → Q v H'
/-- .. of arguments -/
def VArgs (L : Lk) (o : List D → St → Option D) : List V → Hp → VK → Prop := fun xs H Q => ∃ ρ st ds d, Rel L ρ st H ∧ Reps L ρ st H xs ds ∧ o ds st = some d ∧
  ∀ (ρ' : Ly) (H' : Hp) (v : V), Ext ρ st H ρ' st H' → Rel L ρ' st H' → Rep L ρ' st H' v d → Q v H'

section
variable {X : Cx} {L : Lk} {W : WX} {a b c : Expr} {es : List Expr} {f g h : EM} {fa : AM} {pos : Pos}
/-! ### names, constants -/
theorem de_var {i : Nat} {x : Str} (hN : X.N[i]? = some x := by rfl) (hv : Vis X.env.scope x := by first | exact Or.inl rfl | exact Or.inr (Or.inl rfl) | exact Or.inr (Or.inr rfl)) (hd : (x == ("__debug__" : Str)) = false := by decide)
    (hcd : (x == ("__classdict__" : Str)) = false := by decide) : PE X (.Name x pos) (wE L W (xVar i)) := by
  refine PE.imp (pe_var hN hv hd hcd) ?_
  rintro σ H Q ⟨ρ, st, env, R, N, h⟩
  unfold xVar at h
  cases e : env[i]? with
  | none => rw [e] at h; exact h.elim
  | some o =>
    cases o with
    | none => rw [e] at h; exact h.elim
    | some d =>
      rw [e] at h
      obtain ⟨v, h1, h2⟩ := N.at_ i d e
      exact ⟨v, h1, h.here R v h2⟩
theorem de_con {e : Expr} {v : V} {d : D} (he : PE X e (tC v)) (hr : ∀ ρ st H, Rep L ρ st H v d) : PE X e (wE L W (xC d)) := by
  refine PE.imp he ?_
  rintro σ H Q ⟨ρ, st, env, R, N, h⟩
  exact PostR.here h R v (hr _ _ _)
theorem de_int {i j} : PE X (.Constant (.int i) j pos) (wE L W (xC (.int i))) := de_con pe_int fun _ _ _ => .int i
theorem de_bl {i j} : PE X (.Constant (.bool i) j pos) (wE L W (xC (.bl i))) := de_con pe_bl fun _ _ _ => .bl i
theorem de_non {j} : PE X (.Constant .none j pos) (wE L W (xC .non)) := de_con pe_non fun _ _ _ => .non
theorem de_str {i j} {s : List Nat} (e : tl i = s := by rfl) : PE X (.Constant (.str i) j pos) (wE L W (xC (.str s))) := by
  subst e
  exact de_con pe_str fun _ _ _ => .str i

/-! ### operators -/
theorem ofO_post {o : Option D} {ρ : Ly} {st : St} {H : Hp} {σ : Sl} {F : Fn D} (h : PostR L W σ F ρ st H (ofO o st)) : ∃ d, o = some d ∧ PostR L W σ F ρ st H (.ok d st) := by
  cases o with
  | none => exact h.elim
  | some d => exact ⟨d, rfl, h⟩
theorem wE_bin {o : Op2} {σ : Sl} {H : Hp} {Q : VK} (q : wE L W (xBin o f g) σ H Q) : tOp (VOp L o) (wE L W f) (wE L W g) σ H Q := by
  obtain ⟨ρ, st, env, R, N, q⟩ := q
  refine wE.mono ?_ (wE_bind R N q)
  rintro x H1 ⟨ρ1, st1, d1, e1, R1, N1, r1, q1⟩
  refine wE.mono ?_ (wE_bind R1 N1 q1)
  rintro y H2 ⟨ρ2, st2, d2, e2, R2, N2, r2, q2⟩
  obtain ⟨d, ed, q3⟩ := ofO_post q2
  exact ⟨ρ2, st2, d1, d2, d, R2, Rep.ext e2 _ _ r1, r2, ed, fun ρ' H' v e R r => q3 ρ' H' e R v r⟩
theorem de_bin {op : Operator} {o : Op2} (ho : OpR X (binaryOp op) (VOp L o)) (ha : PE X a (wE L W f)) (hb : PE X b (wE L W g)) : PE X (.BinOp a op b pos) (wE L W (xBin o f g)) :=
  PE.imp (pe_op ho ha hb) fun σ H Q q => wE_bin q
theorem de_cmp {op : CmpOp} {o : Op2} (ho : OpR X (compareOp op) (VOp L o)) (ha : PE X a (wE L W f)) (hb : PE X b (wE L W g)) (hm : behindInMarks op b = false := by first | exact nomark _ | rfl | with_unfolding_all rfl) : PE X (.Compare a [op] [b] pos) (wE L W (xBin o f g)) :=
  PE.imp (pe_cmpR ho ha hb hm) fun σ H Q q => wE_bin q
theorem de_ix {o : Op2} (ho : IxR X (VOp L o)) (ha : PE X a (wE L W f)) (hb : PE X b (wE L W g)) (hs : PlainIx b := by exact fun _ _ => rfl) : PE X (.Subscript a b pos) (wE L W (xBin o f g)) :=
  PE.imp (pe_ix ho ha hb hs) fun σ H Q q => wE_bin q

/-! ### truth -/
theorem tru_rep {ρ : Ly} {st : St} {H : Hp} {v : V} {d : D} {k : Bool} (R : Rel L ρ st H) (r : Rep L ρ st H v d) (e : truthy st d = some k) : TruV L.K v H k := by
  cases r with
  | non => simp only [truthy, Option.some.injEq] at e; exact e.symm
  | bl b => simp [truthy] at e; exact e.symm
  | int i => simp [truthy] at e; exact e.symm
  | str x =>
    simp only [truthy] at e
    split at e
    · rename_i hl
      simp only [Option.some.injEq] at e
      refine ⟨by rw [len_tl]; exact hl, ?_⟩
      rw [← e, len_tl]
      cases tl x <;> simp
      omega
    · cases e
  | tup h1 h2 =>
    simp only [truthy, Option.some.injEq] at e
    refine .inr (.inl ⟨_, h1.sq, ?_⟩)
    rw [← e]
    cases h2 <;> rfl
  | lst h1 h2 =>
    simp only [truthy, Option.some.injEq] at e
    refine .inl ⟨_, h1.sq, ?_⟩
    rw [← e]
    cases h2 <;> rfl
  | @ref a n h1 =>
    simp only [truthy] at e
    cases hs : st[n]? with
    | none => rw [hs] at e; simp at e
    | some o =>
      have q := R.ob n a o h1 hs
      rw [hs] at e
      cases o with
      | ml l =>
        obtain ⟨xs, q1, q2⟩ := q
        simp only [Option.some.injEq] at e
        refine .inl ⟨_, SqL.of q1, ?_⟩
        rw [← e]
        cases q2 <;> rfl
      | fz l =>
        obtain ⟨xs, q1, q2⟩ := q
        simp only [Option.some.injEq] at e
        refine .inl ⟨_, SqL.of q1, ?_⟩
        rw [← e]
        cases q2 <;> rfl
      | md t kvs =>
        cases t with
        | true => simp at e
        | false =>
          obtain ⟨ks, q1, q2⟩ := q
          simp only [Option.some.injEq] at e
          refine .inr (.inr ⟨ks, q1, ?_⟩)
          rw [← e]
          cases q2 <;> rfl
      | mdl t kvs => simp at e
      | ins c fs => simp at e
  | exc h1 h2 => simp [truthy] at e
theorem wE_truth {σ : Sl} {H : Hp} {Q : Bool → Hp → Prop} (hK : X.K = L.K) (q : wT L W f σ H Q) : wE L W f σ H fun x H' => ∃ k, TruV X.K x H' k ∧ Q k H' :=
  wR.mono (fun d ρ st H' R ⟨k, e, q⟩ v r => ⟨k, by rw [hK]; exact tru_rep R r e, q⟩) q
/-- any expression, as a test -/
theorem dt_truth (hK : X.K = L.K) (ha : PE X a (wE L W f)) (he : ∀ whole, isTrue a X.env whole = (do let v ← whole; standAt a.pos; holding [v] (PySem.truthy v)) := by exact fun _ => rfl) : PT X a (wT L W f) :=
  PT.imp (pt_truth ha he) fun σ H Q q => wE_truth hK q
/-- a comparison, as a test -/
theorem wT_bin {o : Op2} {σ : Sl} {H : Hp} {Q : Bool → Hp → Prop} (hb : ∀ x y st d, o x y st = some d → ∃ b, d = .bl b) (q : wT L W (xBin o f g) σ H Q) : tTest (tOp (VOp L o) (wE L W f) (wE L W g)) σ H Q := by
  obtain ⟨ρ, st, env, R, N, q⟩ := q
  refine wE.mono ?_ (wE_bind R N q)
  rintro x H1 ⟨ρ1, st1, d1, e1, R1, N1, r1, q1⟩
  refine wE.mono ?_ (wE_bind R1 N1 q1)
  rintro y H2 ⟨ρ2, st2, d2, e2, R2, N2, r2, q2⟩
  obtain ⟨d, ed, q3⟩ := ofO_post q2
  obtain ⟨k, rfl⟩ := hb _ _ _ _ ed
  refine ⟨ρ2, st2, d1, d2, _, R2, Rep.ext e2 _ _ r1, r2, ed, fun ρ' H' v e R r => ?_⟩
  cases r
  obtain ⟨k', ek, q4⟩ := q3 ρ' H' e R
  simp only [truthy, Option.some.injEq] at ek
  subst ek
  exact ⟨_, rfl, q4⟩
theorem dt_cmp {op : CmpOp} {o : Op2} (hb : ∀ x y st d, o x y st = some d → ∃ b, d = .bl b) (ho : OpR X (compareOp op) (VOp L o)) (ha : PE X a (wE L W f)) (hb' : PE X b (wE L W g)) (hm : behindInMarks op b = false := by first | exact nomark _ | rfl | with_unfolding_all rfl) : PT X (.Compare a [op] [b] pos) (wT L W (xBin o f g)) :=
  PT.imp (pt_cmpR ho ha hb' hm) fun σ H Q q => wT_bin hb q
theorem wE_chain {o p : Op2} {σ : Sl} {H : Hp} {Q : VK} (q : wE L W (xChain o p f g h) σ H Q) : tChain (VOp L o) (VOp L p) (wE L W f) (wE L W g) (wE L W h) σ H Q := by
  obtain ⟨ρ, st, env, R, N, q⟩ := q
  refine wE.mono ?_ (wE_bind R N q)
  rintro x H1 ⟨ρ1, st1, d1, e1, R1, N1, r1, q1⟩
  refine wE.mono ?_ (wE_bind R1 N1 q1)
  rintro y H2 ⟨ρ2, st2, d2, e2, R2, N2, r2, q2⟩
  cases ed : o d1 d2 st2 with
  | none => rw [ed] at q2; exact q2.elim
  | some d =>
    rw [ed] at q2
    cases d with
    | bl k =>
      refine ⟨ρ2, st2, d1, d2, _, R2, Rep.ext e2 _ _ r1, r2, ed, fun ρ' H' v e R r => ?_⟩
      cases r
      refine ⟨k, rfl, ?_⟩
      cases k with
      | true =>
        rw [if_pos rfl]
        refine wE.mono ?_ (wE_bind R (N2.ext e) (PostR.ext q2 e))
        rintro z H3 ⟨ρ3, st3, d3, e3, R3, N3, r3, q3⟩
        obtain ⟨d', ed', q4⟩ := ofO_post q3
        exact ⟨ρ3, st3, d2, d3, d', R3, Rep.ext (e.trans e3) _ _ r2, r3, ed', fun ρ' H' v e R r => q4 ρ' H' e R v r⟩
      | false =>
        rw [if_neg Bool.false_ne_true]
        exact q2 ρ' H' e R _ (.bl false)
    | _ => exact q2.elim
theorem de_chain {op op' : CmpOp} {o p : Op2} (ho : OpR X (compareOp op) (VOp L o)) (ho' : OpR X (compareOp op') (VOp L p)) (ha : PE X a (wE L W f)) (hb : PE X b (wE L W g)) (hc : PE X c (wE L W h))
    (hm : lastMarks [op, op'] [b, c] = false := by with_unfolding_all rfl) : PE X (.Compare a [op, op'] [b, c] pos) (wE L W (xChain o p f g h)) :=
  PE.imp (pe_chain ho ho' ha hb hc hm) fun σ H Q q => wE_chain q
/-- what gives truths alone -/
def Bls (f : EM) : Prop := ∀ env st d st', f env st = .ok d st' → ∃ b, d = .bl b
theorem wT_bl {σ : Sl} {H : Hp} {Q : Bool → Hp → Prop} (hb : Bls f) (q : wT L W f σ H Q) : wE L W f σ H fun x H' => ∃ k, x = .bl k ∧ Q k H' := by
  obtain ⟨ρ, st, env, R, N, q⟩ := q
  refine ⟨ρ, st, env, R, N, ?_⟩
  cases e : f env st with
  | ok d st' =>
    rw [e] at q
    obtain ⟨b, rfl⟩ := hb _ _ _ _ e
    intro ρ' H' x R' v r
    obtain ⟨k, ek, q⟩ := q ρ' H' x R'
    cases r
    simp only [truthy, Option.some.injEq] at ek
    subst ek
    exact ⟨_, rfl, q⟩
  | exn c st' => rw [e] at q; exact q
  | stuck => rw [e] at q; exact q
theorem bls_chain {o p : Op2} (hp : ∀ x y st d, p x y st = some d → ∃ b, d = .bl b) : Bls (xChain o p f g h) := by
  intro env st d st' e
  unfold xChain at e
  cases e1 : f env st with
  | ok d1 st1 =>
    rw [e1] at e
    simp only [RR.bind] at e
    cases e2 : g env st1 with
    | ok d2 st2 =>
      rw [e2] at e
      simp only at e
      split at e
      · cases e3 : h env st2 with
        | ok d3 st3 =>
          rw [e3] at e
          simp only at e
          cases e4 : p d2 d3 st3 with
          | none => rw [e4] at e; cases e
          | some d4 =>
            rw [e4] at e
            cases e
            exact hp _ _ _ _ e4
        | exn c st3 => rw [e3] at e; cases e
        | stuck => rw [e3] at e; cases e
      · cases e; exact ⟨false, rfl⟩
      · cases e
    | exn c st2 => rw [e2] at e; cases e
    | stuck => rw [e2] at e; cases e
  | exn c st1 => rw [e1] at e; cases e
  | stuck => rw [e1] at e; cases e
theorem dt_chain {op op' : CmpOp} {o p : Op2} (hp : ∀ x y st d, p x y st = some d → ∃ b, d = .bl b) (ho : OpR X (compareOp op) (VOp L o)) (ho' : OpR X (compareOp op') (VOp L p)) (ha : PE X a (wE L W f)) (hb : PE X b (wE L W g)) (hc : PE X c (wE L W h))
    (hm : lastMarks [op, op'] [b, c] = false := by with_unfolding_all rfl) : PT X (.Compare a [op, op'] [b, c] pos) (wT L W (xChain o p f g h)) :=
  PT.imp (pt_chain ho ho' ha hb hc hm) fun σ H Q q => by
    have z := wT_bl (bls_chain hp) q
    have z2 := wE_chain z
    exact z2

/-! ### and, or, not, if -/
theorem de_not (hK : X.K = L.K) (ha : PE X a (wE L W f)) : PE X (.UnaryOp .Not a pos) (wE L W (xNot f)) := by
  refine PE.imp (pe_notT ha) ?_
  rintro σ H Q ⟨ρ, st, env, R, N, q⟩
  refine wE.mono ?_ (wE_bind R N q)
  rintro x H1 ⟨ρ1, st1, d1, e1, R1, N1, r1, q1⟩
  cases ek : truthy st1 d1 with
  | none => rw [ek] at q1; exact q1.elim
  | some k =>
    rw [ek] at q1
    exact ⟨k, by rw [hK]; exact tru_rep R1 r1 ek, q1.here R1 _ (.bl _)⟩
theorem de_one {op} (h : PE X a (wE L W f)) : PE X (.BoolOp op [a] pos) (wE L W f) := pe_one h
theorem de_and {rest : List Expr} (hK : X.K = L.K) (ha : PE X a (wE L W f)) (hb : PE X (.BoolOp .And (b :: rest) pos) (wE L W g)) : PE X (.BoolOp .And (a :: b :: rest) pos) (wE L W (xAnd f g)) := by
  refine PE.imp (pe_andT ha hb) ?_
  rintro σ H Q ⟨ρ, st, env, R, N, q⟩
  refine wE.mono ?_ (wE_bind R N q)
  rintro x H1 ⟨ρ1, st1, d1, e1, R1, N1, r1, q1⟩
  cases ek : truthy st1 d1 with
  | none => rw [ek] at q1; exact q1.elim
  | some k =>
    rw [ek] at q1
    refine ⟨k, by rw [hK]; exact tru_rep R1 r1 ek, ?_⟩
    cases k with
    | true => rw [if_pos rfl]; exact ⟨ρ1, st1, env, R1, N1, q1⟩
    | false => rw [if_neg Bool.false_ne_true]; exact q1.here R1 _ r1
theorem de_or {rest : List Expr} (hK : X.K = L.K) (ha : PE X a (wE L W f)) (hb : PE X (.BoolOp .Or (b :: rest) pos) (wE L W g)) : PE X (.BoolOp .Or (a :: b :: rest) pos) (wE L W (xOr f g)) := by
  refine PE.imp (pe_orT ha hb) ?_
  rintro σ H Q ⟨ρ, st, env, R, N, q⟩
  refine wE.mono ?_ (wE_bind R N q)
  rintro x H1 ⟨ρ1, st1, d1, e1, R1, N1, r1, q1⟩
  cases ek : truthy st1 d1 with
  | none => rw [ek] at q1; exact q1.elim
  | some k =>
    rw [ek] at q1
    refine ⟨k, by rw [hK]; exact tru_rep R1 r1 ek, ?_⟩
    cases k with
    | false => rw [if_neg Bool.false_ne_true]; exact ⟨ρ1, st1, env, R1, N1, q1⟩
    | true => rw [if_pos rfl]; exact q1.here R1 _ r1
/-- in tests -/
theorem dw_one {op} (h : PT X a (wT L W f)) (e : op = BoolOp.And ∨ op = BoolOp.Or := by decide) : PW X (.BoolOp op [a] pos) (wT L W f) := by
  rcases e with rfl | rfl
  · exact pw_and1 h
  · exact pw_or1 h
theorem dw_and {rest : List Expr} (ha : PT X a (wT L W f)) (hb : PW X (.BoolOp .And (b :: rest) pos) (wT L W g)) : PW X (.BoolOp .And (a :: b :: rest) pos) (wT L W (xAnd f g)) := by
  refine PW.imp (pw_and ha hb) ?_
  rintro σ H Q ⟨ρ, st, env, R, N, q⟩
  refine ⟨ρ, st, env, R, N, PostR.mono ?_ (PostR.bind q)⟩
  rintro d ρ' st' H' e R' ⟨_, _, q⟩
  cases ek : truthy st' d with
  | none => rw [ek] at q; exact q.elim
  | some k =>
    rw [ek] at q
    refine ⟨k, ek, ?_⟩
    cases k with
    | true => rw [if_pos rfl]; exact ⟨ρ', st', env, R', N.ext e, q⟩
    | false =>
      rw [if_neg Bool.false_ne_true]
      obtain ⟨k', ek', q'⟩ := q.here R'
      rw [ek] at ek'
      cases ek'
      exact q'
theorem dw_or {rest : List Expr} (ha : PT X a (wT L W f)) (hb : PW X (.BoolOp .Or (b :: rest) pos) (wT L W g)) : PW X (.BoolOp .Or (a :: b :: rest) pos) (wT L W (xOr f g)) := by
  refine PW.imp (pw_or ha hb) ?_
  rintro σ H Q ⟨ρ, st, env, R, N, q⟩
  refine ⟨ρ, st, env, R, N, PostR.mono ?_ (PostR.bind q)⟩
  rintro d ρ' st' H' e R' ⟨_, _, q⟩
  cases ek : truthy st' d with
  | none => rw [ek] at q; exact q.elim
  | some k =>
    rw [ek] at q
    refine ⟨k, ek, ?_⟩
    cases k with
    | false => rw [if_neg Bool.false_ne_true]; exact ⟨ρ', st', env, R', N.ext e, q⟩
    | true =>
      rw [if_pos rfl]
      obtain ⟨k', ek', q'⟩ := q.here R'
      rw [ek] at ek'
      cases ek'
      exact q'
theorem dt_not (ha : PT X a (wT L W f)) : PT X (.UnaryOp .Not a pos) (wT L W (xNot f)) := by
  refine PT.imp (pt_not ha) ?_
  rintro σ H Q ⟨ρ, st, env, R, N, q⟩
  refine ⟨ρ, st, env, R, N, PostR.mono ?_ (PostR.bind q)⟩
  rintro d ρ' st' H' e R' ⟨_, _, q⟩
  cases ek : truthy st' d with
  | none => rw [ek] at q; exact q.elim
  | some k =>
    rw [ek] at q
    obtain ⟨k', ek', q'⟩ := q.here R'
    simp only [truthy, Option.some.injEq] at ek'
    subst ek'
    exact ⟨k, ek, q'⟩
theorem de_if (hc : PT X c (wT L W h)) (ha : PE X a (wE L W f)) (hb : PE X b (wE L W g)) : PE X (.IfExp c a b pos) (wE L W (xIf h f g)) := by
  refine PE.imp (pe_ifExp hc ha hb) ?_
  rintro σ H Q ⟨ρ, st, env, R, N, q⟩
  refine ⟨ρ, st, env, R, N, PostR.mono ?_ (PostR.bind q)⟩
  rintro d ρ' st' H' e R' ⟨_, _, q⟩
  cases ek : truthy st' d with
  | none => rw [ek] at q; exact q.elim
  | some k =>
    rw [ek] at q
    refine ⟨k, ek, ?_⟩
    cases k with
    | true => rw [if_pos rfl]; exact ⟨ρ', st', env, R', N.ext e, q⟩
    | false => rw [if_neg Bool.false_ne_true]; exact ⟨ρ', st', env, R', N.ext e, q⟩

/-! ### arguments, displays -/
theorem da_nil : PA X [] (wA L W aNil) := by
  refine PA.imp pa_nil ?_
  rintro σ H Q ⟨ρ, st, env, R, N, q⟩
  exact q.here R _ .nil
theorem da_cons (ha : PE X a (wE L W f)) (hr : PA X es (wA L W fa)) (hs : starEach (a :: es) X.env = (false, eval a X.env) :: starEach es X.env := by rfl) : PA X (a :: es) (wA L W (aCons f fa)) := by
  refine PA.imp (pa_cons ha hr hs) ?_
  rintro σ H Q ⟨ρ, st, env, R, N, q⟩
  refine wE.mono ?_ (wE_bind R N q)
  rintro x H1 ⟨ρ1, st1, d1, e1, R1, N1, r1, q1⟩
  refine wA.mono ?_ (wA_bind R1 N1 q1)
  rintro y H2 ⟨ρ2, st2, d2, e2, R2, N2, r2, q2⟩
  exact q2.here R2 _ (.cons (Rep.ext e2 _ _ r1) r2)
theorem LN_eq : (LN : Nat) = sizeLine := by rw [sizeLine_eq]; rfl
theorem de_tup {k} (ha : PA X es (wA L W fa)) : PE X (.Tuple es k pos) (wE L W (xTup fa)) := by
  refine PE.imp (pe_tup ha) ?_
  rintro σ H Q ⟨ρ, st, env, R, N, q⟩
  refine wA.mono ?_ (wA_bind R N q)
  rintro xs H1 ⟨ρ1, st1, ds, e1, R1, N1, r1, q1⟩
  by_cases hl : ds.length ≤ LN
  · rw [if_pos hl] at q1
    refine ⟨by rw [r1.length, ← LN_eq]; exact hl, fun p hp => ?_⟩
    exact q1 ρ1 (upd H1 p (.tup xs)) (ext_new R1 hp) (rel_new R1 hp) _ (.tup (⟨upd_same, imm_new R1 hp⟩) (Reps.ext (ext_new R1 hp) _ _ r1))
  · rw [if_neg hl] at q1
    exact q1.elim
theorem dl_lst (ha : PA X es (wA L W fa)) : PE X (.List es pos) (wL L W (lLst fa)) := by
  refine PE.imp (pe_lst ha) ?_
  rintro σ H Q ⟨ρ, st, env, R, N, q⟩
  refine wA.mono ?_ (wA_bind R N q)
  rintro xs H1 ⟨ρ1, st1, ds, e1, R1, N1, r1, q1⟩
  by_cases hl : ds.length ≤ LN
  · rw [if_pos hl] at q1
    exact ⟨by rw [r1.length, ← LN_eq]; exact hl, fun p hp => q1.here R1 _ _ r1 hp⟩
  · rw [if_neg hl] at q1
    exact q1.elim
/-- a new list as data -/
theorem new_wL {fl : LM} {σ : Sl} {H : Hp} {Q : VK} (q : wE L W (xLst fl) σ H Q) : wL L W fl σ H Q := by
  obtain ⟨ρ, st, env, R, N, q⟩ := q
  refine ⟨ρ, st, env, R, N, PostR.mono ?_ (PostR.bind q)⟩
  rintro ds ρ' st' H' e R' ⟨_, _, q⟩ v p r hp
  exact q ρ' (upd H' p (.lst v)) (ext_new R' hp) (rel_new R' hp) _ (.lst (.inl ⟨.inl upd_same, imm_new R' hp⟩) (Reps.ext (ext_new R' hp) _ _ r))
theorem de_new {fl : LM} (ha : PE X a (wL L W fl)) : PE X a (wE L W (xLst fl)) := PE.imp ha fun _ _ _ q => new_wL q
/-- .. as an object of the store -/
theorem mut_wL {fl : LM} {σ : Sl} {H : Hp} {Q : VK} (q : wE L W (xMut fl) σ H Q) : wL L W fl σ H Q := by
  obtain ⟨ρ, st, env, R, N, q⟩ := q
  refine ⟨ρ, st, env, R, N, PostR.mono ?_ (PostR.bind q)⟩
  rintro ds ρ' st' H' e R' ⟨_, _, q⟩ v p r hp
  have x := ext_join (ob := .ml ds) (o := .lst v) R' hp
  exact q _ _ x (rel_join R' hp ⟨v, upd_same, Reps.ext x _ _ r⟩) _ (.ref (by rw [← R'.len]; show (ρ'.adr ++ [p])[ρ'.adr.length]? = some p; simp))
theorem de_mut {fl : LM} (ha : PE X a (wL L W fl)) : PE X a (wE L W (xMut fl)) := PE.imp ha fun _ _ _ q => mut_wL q
theorem de_frz (ha : PE X a (wE L W f)) : PE X a (wE L W (xFrz f)) := by
  refine PE.imp ha ?_
  rintro σ H Q ⟨ρ, st, env, R, N, q⟩
  refine wE.mono ?_ (wE_bind R N q)
  rintro x H1 ⟨ρ1, st1, d, e1, R1, N1, r1, q1⟩
  cases r1 with
  | @ref a n h1 =>
    simp only at q1
    cases hs : st1[n]? with
    | none => rw [hs] at q1; exact q1.elim
    | some o =>
      rw [hs] at q1
      cases o with
      | ml l =>
        obtain ⟨xs, z1, z2⟩ := R1.ob n a _ h1 hs
        refine q1 ρ1 H1 (ext_frz hs) (rel_frz R1 hs) _ (.lst (.inl ⟨.inl z1, fun h => (R1.outs a h).2 n h1, fun m hm => ?_⟩) (Reps.ext (ext_frz hs) _ _ z2))
        have em := nodup_at R1.nd hm h1
        subst em
        exact ⟨.fz l, List.getElem?_set_self (List.getElem?_eq_some_iff.mp hs).1, trivial⟩
      | fz l =>
        obtain ⟨xs, z1, z2⟩ := R1.ob n a _ h1 hs
        refine q1.here R1 _ (.lst (.inl ⟨.inl z1, fun h => (R1.outs a h).2 n h1, fun m hm => ?_⟩) z2)
        have em := nodup_at R1.nd hm h1
        subst em
        exact ⟨.fz l, hs, trivial⟩
      | md t kvs => exact q1.elim
      | mdl t kvs => exact q1.elim
      | ins c fs => exact q1.elim
  | lst h1 h2 => exact q1.here R1 _ (.lst h1 h2)
  | _ => exact q1.elim
end
end TH
end
section
set_option Elab.async false
set_option linter.all false
set_option autoImplicit false
set_option maxRecDepth 100000
/-! TH3: the operators by values. -/
namespace TH
open PySem L2 TL
section
variable {L : Lk} {ρ : Ly} {st : St} {H : Hp}
/-! ### what a value's shape tells -/
theorem rep_int {v : V} {i : Int} (h : Rep L ρ st H v (.int i)) : v = .int i := by cases h; rfl
theorem rep_bl {v : V} {i : Bool} (h : Rep L ρ st H v (.bl i)) : v = .bl i := by cases h; rfl
theorem rep_non {v : V} (h : Rep L ρ st H v .non) : v = .non := by cases h; rfl
theorem rep_str {v : V} {s : List Nat} (h : Rep L ρ st H v (.str s)) : ∃ x, v = .str x ∧ tl x = s := by cases h; exact ⟨_, rfl, rfl⟩
theorem rep_tup {v : V} {l : List D} (h : Rep L ρ st H v (.tup l)) : ∃ a xs, v = .ref a ∧ TupAt L ρ st H a xs ∧ Reps L ρ st H xs l := by cases h with | tup h1 h2 => exact ⟨_, _, rfl, h1, h2⟩
theorem rep_mk (x : Str) {s : List Nat} (e : tl x = s) : Rep L ρ st H (.str x) (.str s) := by subst e; exact .str x
theorem tl_eq {x y : Str} : (x == y) = (tl x == tl y) := by
  by_cases e : x = y
  · subst e; simp
  · have q : ¬ tl x = tl y := fun z => e (ext_tl z)
    rw [beq_eq_false_iff_ne.mpr e, beq_eq_false_iff_ne.mpr q]
theorem flat_rep {v : V} {d : D} (h : Rep L ρ st H v d) (f : d.flat = true) : flatV v = true := by cases h <;> first | rfl | (simp [D.flat] at f)
theorem flat_eqv {v w : V} {d e : D} (h : Rep L ρ st H v d) (h2 : Rep L ρ st H w e) (f : d.flat = true) (f2 : e.flat = true) : eqV v w = d.eqv e := by
  cases h <;> cases h2 <;> first | (simp [D.flat] at f; done) | (simp [D.flat] at f2; done) | (simp [eqV, D.eqv, b2i]; done) | (simp only [eqV, D.eqv]; exact tl_eq)
theorem flats_rep : ∀ {vs : List V} {ds : List D}, Reps L ρ st H vs ds → ds.all D.flat = true → vs.all flatV = true
  | _, _, .nil, _ => rfl
  | _, _, .cons h t, f => by
    rw [List.all_cons, Bool.and_eq_true] at f ⊢
    exact ⟨flat_rep h f.1, flats_rep t f.2⟩
theorem any_flat {x : V} {d : D} (hx : Rep L ρ st H x d) (fx : d.flat = true) : ∀ {vs : List V} {ds : List D}, Reps L ρ st H vs ds → ds.all D.flat = true → inV x vs = ds.any fun y => y.eqv d
  | _, _, .nil, _ => rfl
  | _, _, .cons h t, f => by
    rw [List.all_cons, Bool.and_eq_true] at f
    have q := any_flat hx fx t f.2
    unfold inV at q ⊢
    rw [List.any_cons, List.any_cons, q, flat_eqv h hx f.1 fx]
/-! ### deep data -/
mutual
def toPy : D → PyData
  | .non => .none
  | .bl b => .bool b
  | .int i => .int i
  | .str s => .str ⟨s.toArray⟩
  | .tup l => .tuple (toPys l)
  | .lst l => .list (toPys l)
  | _ => .none
def toPys : List D → List PyData
  | [] => []
  | d :: ds => toPy d :: toPys ds
end
mutual
theorem pu_dp : ∀ (k : Nat) (d : D) (v : V), Rep L ρ st H v d → d.pu k = true → Dp L.K H v (toPy d) ∧ (toPy d).canLay0 = true ∧ (toPy d).depth ≤ k
  | k, .non, _, h, _ => by cases h; simp only [toPy]; exact ⟨.non, rfl, Nat.zero_le _⟩
  | k, .bl b, _, h, _ => by cases h; simp only [toPy]; exact ⟨.bl b, rfl, Nat.zero_le _⟩
  | k, .int i, _, h, _ => by cases h; simp only [toPy]; exact ⟨.int i, rfl, Nat.zero_le _⟩
  | k, .str s, _, h, f => by
    obtain ⟨x, rfl, rfl⟩ := rep_str h
    simp only [toPy, mk_tl]
    refine ⟨.str x, ?_, Nat.zero_le _⟩
    have f : (x.cps.toList).all (fun c => decide (c < 55296)) = true := by cases k <;> exact f
    simp only [PyData.canLay0, PyData.strOk, Array.all_eq_true]
    intro i hi
    rw [List.all_eq_true] at f
    have q := f x.cps[i] (by simp)
    have q' := of_decide_eq_true q
    exact decide_eq_true (by omega)
  | 0, .tup l, _, _, f => by simp [D.pu] at f
  | 0, .lst l, _, _, f => by simp [D.pu] at f
  | k + 1, .tup l, _, h, f => by
    obtain ⟨a, xs, rfl, h1, h2⟩ := rep_tup h
    have q := pus_dp k l xs h2 (by simpa [D.pu] using f)
    simp only [toPy]
    refine ⟨.tup h1.sq q.1, by simp only [PyData.canLay0]; exact q.2.1, ?_⟩
    simp only [PyData.depth]
    exact Nat.succ_le_succ q.2.2
  | k + 1, .lst l, _, h, f => by
    cases h with
    | lst h1 h2 =>
      have q := pus_dp k l _ h2 (by simpa [D.pu] using f)
      simp only [toPy]
      refine ⟨.lst h1.sq q.1, by simp only [PyData.canLay0]; exact q.2.1, ?_⟩
      simp only [PyData.depth]
      exact Nat.succ_le_succ q.2.2
  | _, .ref n, _, _, f => by simp [D.pu] at f
  | _, .exc n, _, _, f => by simp [D.pu] at f
theorem pus_dp : ∀ (k : Nat) (l : List D) (vs : List V), Reps L ρ st H vs l → l.all (D.pu k) = true → DpAll L.K H vs (toPys l) ∧ PyData.canLayAll0 (toPys l) = true ∧ PyData.depthAll (toPys l) ≤ k
  | k, [], _, h, _ => by cases h; simp only [toPys]; exact ⟨.nil, rfl, Nat.zero_le _⟩
  | k, d :: ds, _, h, f => by
    cases h with
    | cons h1 h2 =>
      rw [List.all_cons, Bool.and_eq_true] at f
      have q1 := pu_dp k d _ h1 f.1
      have q2 := pus_dp k ds _ h2 f.2
      simp only [toPys]
      refine ⟨.cons q1.1 q2.1, by simp only [PyData.canLayAll0, q1.2.1, q2.2.1, Bool.and_self], ?_⟩
      simp only [PyData.depthAll]
      exact Nat.max_le.mpr ⟨q1.2.2, q2.2.2⟩
end
mutual
theorem pu_eqv : ∀ (k : Nat) (d e : D), d.pu k = true → e.pu k = true → PyData.eqv (toPy d) (toPy e) = d.eqv e
  | _, .non, e, _, f => by cases e <;> simp [toPy, PyData.eqv, D.eqv, D.pu] at f ⊢
  | _, .bl _, e, _, f => by cases e <;> simp [toPy, PyData.eqv, D.eqv, D.pu, b2i] at f ⊢
  | _, .int _, e, _, f => by cases e <;> simp [toPy, PyData.eqv, D.eqv, D.pu, b2i] at f ⊢
  | _, .str x, e, _, f => by
    cases e with
    | str y =>
      simp only [toPy, PyData.eqv, D.eqv]
      exact tl_eq
    | _ => simp [toPy, PyData.eqv, D.eqv, D.pu] at f ⊢
  | 0, .tup l, _, f, _ => by simp [D.pu] at f
  | 0, .lst l, _, f, _ => by simp [D.pu] at f
  | k + 1, .tup l, e, f, g => by
    cases e with
    | tup m =>
      simp only [toPy, PyData.eqv, D.eqv]
      exact pu_eqvs k l m (by simpa [D.pu] using f) (by simpa [D.pu] using g)
    | _ => simp [toPy, PyData.eqv, D.eqv, D.pu] at g ⊢
  | k + 1, .lst l, e, f, g => by
    cases e with
    | lst m =>
      simp only [toPy, PyData.eqv, D.eqv]
      exact pu_eqvs k l m (by simpa [D.pu] using f) (by simpa [D.pu] using g)
    | _ => simp [toPy, PyData.eqv, D.eqv, D.pu] at g ⊢
  | _, .ref n, _, f, _ => by simp [D.pu] at f
  | _, .exc n, _, f, _ => by simp [D.pu] at f
theorem pu_eqvs : ∀ (k : Nat) (l m : List D), l.all (D.pu k) = true → m.all (D.pu k) = true → PyData.eqvAll (toPys l) (toPys m) = D.eqvL l m
  | _, [], [], _, _ => by simp [toPys, PyData.eqvAll, D.eqvL]
  | _, [], _ :: _, _, _ => by simp [toPys, PyData.eqvAll, D.eqvL]
  | _, _ :: _, [], _, _ => by simp [toPys, PyData.eqvAll, D.eqvL]
  | k, d :: l, e :: m, f, g => by
    rw [List.all_cons, Bool.and_eq_true] at f g
    simp only [toPys, PyData.eqvAll, D.eqvL]
    rw [pu_eqv k d e f.1 g.1, pu_eqvs k l m f.2 g.2]
end
/-- the value of asD -/
theorem asD_rep (R : Rel L ρ st H) {v : V} {d : D} (h : Rep L ρ st H v d) : (∀ n, d ≠ .ref n) ∧ asD st d = d ∨ (∃ n a l xs, d = .ref n ∧ asD st d = .lst l ∧ v = .ref a ∧ H a = some (.lst xs) ∧ Reps L ρ st H xs l) ∨ (∃ n, asD st d = .ref n) := by
  cases h with
  | @ref a n h1 =>
    simp only [asD]
    cases hs : st[n]? with
    | none => exact .inr (.inr ⟨n, rfl⟩)
    | some o =>
      have q := R.ob n a o h1 hs
      cases o with
      | ml l =>
        obtain ⟨xs, q1, q2⟩ := q
        exact .inr (.inl ⟨n, a, l, xs, rfl, rfl, rfl, q1, q2⟩)
      | fz l =>
        obtain ⟨xs, q1, q2⟩ := q
        exact .inr (.inl ⟨n, a, l, xs, rfl, rfl, rfl, q1, q2⟩)
      | md t kvs => exact .inr (.inr ⟨n, rfl⟩)
      | mdl t kvs => exact .inr (.inr ⟨n, rfl⟩)
      | ins c fs => exact .inr (.inr ⟨n, rfl⟩)
  | _ => exact .inl ⟨fun _ => D.noConfusion, rfl⟩
theorem asD_dp (R : Rel L ρ st H) {v : V} {d : D} (h : Rep L ρ st H v d) {k : Nat} (f : (asD st d).pu (k + 1) = true) : Dp L.K H v (toPy (asD st d)) ∧ (toPy (asD st d)).canLay0 = true ∧ (toPy (asD st d)).depth ≤ k + 1 := by
  rcases asD_rep R h with ⟨_, e⟩ | ⟨n, a, l, xs, rfl, e, rfl, q1, q2⟩ | ⟨n, e⟩
  · rw [e] at f ⊢
    exact pu_dp _ _ _ h f
  · rw [e] at f ⊢
    have q := pus_dp k l xs q2 (by simpa [D.pu] using f)
    simp only [toPy]
    refine ⟨.lst (SqL.of q1) q.1, by simp only [PyData.canLay0]; exact q.2.1, ?_⟩
    simp only [PyData.depth]
    exact Nat.succ_le_succ q.2.2
  · rw [e] at f
    simp [D.pu] at f
theorem asD_flat (R : Rel L ρ st H) {v : V} {d : D} (h : Rep L ρ st H v d) (f : (asD st d).flat = true) : asD st d = d := by
  rcases asD_rep R h with ⟨_, e⟩ | ⟨n, a, l, xs, rfl, e, rfl, q1, q2⟩ | ⟨n, e⟩
  · exact e
  · rw [e] at f; simp [D.flat] at f
  · rw [e] at f; simp [D.flat] at f
theorem shaped_of {d : PyData} (h : d.canLay0 = true) (h2 : d.depth ≤ 64) : SeqAt.shaped d = true := by
  unfold SeqAt.shaped
  rw [h, decide_eq_true h2]
  rfl
end

section
variable {X : Cx} {L : Lk}
/-! ### arithmetic -/
theorem op_addV (hK : X.K = L.K) : OpR X (binaryOp .Add) (VOp L oAdd) := by
  refine OpR.imp (OpR.or op_add (OpR.or op_add_str op_catT)) ?_
  rintro x y H Q ⟨ρ, st, a, b, d, R, ra, rb, e, q⟩
  unfold oAdd at e
  split at e
  · cases ra; cases rb
    cases e
    exact .inl ⟨_, _, rfl, rfl, q ρ H _ Ext.refl R (.int _)⟩
  · obtain ⟨x, rfl, rfl⟩ := rep_str ra
    obtain ⟨y, rfl, rfl⟩ := rep_str rb
    split at e
    · rename_i hl
      cases e
      refine .inr (.inl ⟨_, _, rfl, rfl, by rw [len_tl, len_tl, ← LN_eq]; exact hl, q ρ H _ Ext.refl R (rep_mk _ (tl_append x y))⟩)
    · cases e
  · obtain ⟨a1, xs, rfl, t1, r1⟩ := rep_tup ra
    obtain ⟨b1, ys, rfl, t2, r2⟩ := rep_tup rb
    split at e
    · rename_i a' b' hl
      cases e
      refine .inr (.inr ⟨a1, b1, xs, ys, rfl, rfl, by rw [hK]; exact t1.sq, by rw [hK]; exact t2.sq, ?_, by rw [r1.length, r2.length, ← LN_eq]; exact hl.1, fun ey => ?_, fun ey p hp => ?_⟩)
      · intro ex
        subst ex
        cases r1
        simp at hl
      · subst ey
        cases r2
        rw [List.append_nil] at q
        exact q ρ H _ Ext.refl R ra
      · exact q ρ _ _ (ext_new R hp) (rel_new R hp) (.tup (⟨upd_same, imm_new R hp⟩) (Reps.ext (ext_new R hp) _ _ (r1.append r2)))
    · cases e
  · cases e
theorem op_subV : OpR X (binaryOp .Sub) (VOp L oSub) := by
  refine OpR.imp op_sub ?_
  rintro x y H Q ⟨ρ, st, a, b, d, R, ra, rb, e, q⟩
  unfold oSub at e
  split at e
  · cases ra; cases rb
    cases e
    exact ⟨_, _, rfl, rfl, q ρ H _ Ext.refl R (.int _)⟩
  · cases e
theorem op_mulV : OpR X (binaryOp .Mult) (VOp L oMul) := by
  refine OpR.imp op_mul ?_
  rintro x y H Q ⟨ρ, st, a, b, d, R, ra, rb, e, q⟩
  unfold oMul at e
  split at e
  · split at e
    · rename_i hc
      cases ra; cases rb
      cases e
      exact ⟨_, _, rfl, rfl, hc, q ρ H _ Ext.refl R (.int _)⟩
    · cases e
  · cases e
theorem op_divV : OpR X (binaryOp .FloorDiv) (VOp L oDiv) := by
  refine OpR.imp op_fdiv ?_
  rintro x y H Q ⟨ρ, st, a, b, d, R, ra, rb, e, q⟩
  unfold oDiv at e
  split at e
  · split at e
    · rename_i hc
      cases ra; cases rb
      cases e
      exact ⟨_, _, rfl, rfl, hc, q ρ H _ Ext.refl R (.int _)⟩
    · cases e
  · cases e
theorem op_modV : OpR X (binaryOp .Mod) (VOp L oMod) := by
  refine OpR.imp op_mod ?_
  rintro x y H Q ⟨ρ, st, a, b, d, R, ra, rb, e, q⟩
  unfold oMod at e
  split at e
  · split at e
    · rename_i hc
      cases ra; cases rb
      cases e
      exact ⟨_, _, rfl, rfl, hc, q ρ H _ Ext.refl R (.int _)⟩
    · cases e
  · cases e
theorem op_powV : OpR X (binaryOp .Pow) (VOp L oPow) := by
  refine OpR.imp op_pow ?_
  rintro x y H Q ⟨ρ, st, a, b, d, R, ra, rb, e, q⟩
  unfold oPow at e
  split at e
  · split at e
    · rename_i hc
      cases ra; cases rb
      cases e
      exact ⟨_, _, rfl, rfl, hc, q ρ H _ Ext.refl R (.int _)⟩
    · cases e
  · cases e
theorem de_neg {a : Expr} {f : EM} {W : WX} {pos : Pos} (ha : PE X a (wE L W f)) : PE X (.UnaryOp .USub a pos) (wE L W (xNeg f)) := by
  refine PE.imp (pe_un un_neg ha) ?_
  rintro σ H Q ⟨ρ, st, env, R, N, q⟩
  refine wE.mono ?_ (wE_bind R N q)
  rintro x H1 ⟨ρ1, st1, d1, e1, R1, N1, r1, q1⟩
  cases r1 with
  | int i => exact ⟨_, rfl, q1.here R1 _ (.int _)⟩
  | _ => exact q1.elim
/-! ### comparisons -/
theorem eqD_cases {x y : D} {k : Bool} (e : eqD x y = some k) : (∃ a b, x = .str a ∧ y = .str b ∧ k = (a == b)) ∨ (x.pu 20 = true ∧ y.pu 20 = true ∧ k = x.eqv y) := by
  unfold eqD at e
  split at e
  · simp only [Option.some.injEq] at e
    exact .inl ⟨_, _, rfl, rfl, e.symm⟩
  · split at e
    · rename_i h
      rw [Bool.and_eq_true] at h
      simp only [Option.some.injEq] at e
      exact .inr ⟨h.1, h.2, e.symm⟩
    · cases e
theorem asD_str {ρ : Ly} {st : St} {H : Hp} (R : Rel L ρ st H) {v : V} {d : D} {a : List Nat} (h : Rep L ρ st H v d) (e : asD st d = .str a) : ∃ x, v = .str x ∧ tl x = a := by
  rcases asD_rep R h with ⟨_, e'⟩ | ⟨n, a', l, xs, rfl, e', rfl, q1, q2⟩ | ⟨n, e'⟩
  · rw [e'] at e
    subst e
    exact rep_str h
  · rw [e'] at e; cases e
  · rw [e'] at e; cases e
theorem op_eqV (hK : X.K = L.K) (hu : X.A.units + 64 < cLine) : OpR X (compareOp .Eq) (VOp L oEq) := by
  refine OpR.imp (OpR.or op_eq (op_eqD hu)) ?_
  rintro x y H Q ⟨ρ, st, a, b, d, R, ra, rb, e, q⟩
  unfold oEq at e
  cases ek : eqD (asD st a) (asD st b) with
  | none => rw [ek] at e; cases e
  | some k =>
    rw [ek] at e
    cases e
    rcases eqD_cases ek with ⟨s, t, es, et, rfl⟩ | ⟨p1, p2, rfl⟩
    · obtain ⟨x', rfl, rfl⟩ := asD_str R ra es
      obtain ⟨y', rfl, rfl⟩ := asD_str R rb et
      refine .inl ⟨rfl, ?_⟩
      rw [dec_str, tl_eq]
      exact q ρ H _ Ext.refl R (.bl _)
    · have z1 := asD_dp R ra p1
      have z2 := asD_dp R rb p2
      refine .inr ⟨_, _, by rw [hK]; exact z1.1, by rw [hK]; exact z2.1, shaped_of z1.2.1 (Nat.le_trans z1.2.2 (by decide)), shaped_of z2.2.1 (Nat.le_trans z2.2.2 (by decide)), ?_⟩
      rw [pu_eqv 20 _ _ p1 p2]
      exact q ρ H _ Ext.refl R (.bl _)
theorem op_neV (hK : X.K = L.K) (hu : X.A.units + 64 < cLine) : OpR X (compareOp .NotEq) (VOp L oNe) := by
  refine OpR.imp (OpR.or op_ne (op_neD hu)) ?_
  rintro x y H Q ⟨ρ, st, a, b, d, R, ra, rb, e, q⟩
  unfold oNe at e
  cases ek : eqD (asD st a) (asD st b) with
  | none => rw [ek] at e; cases e
  | some k =>
    rw [ek] at e
    cases e
    rcases eqD_cases ek with ⟨s, t, es, et, rfl⟩ | ⟨p1, p2, rfl⟩
    · obtain ⟨x', rfl, rfl⟩ := asD_str R ra es
      obtain ⟨y', rfl, rfl⟩ := asD_str R rb et
      refine .inl ⟨rfl, ?_⟩
      rw [dec_str, tl_eq]
      exact q ρ H _ Ext.refl R (.bl _)
    · have z1 := asD_dp R ra p1
      have z2 := asD_dp R rb p2
      refine .inr ⟨_, _, by rw [hK]; exact z1.1, by rw [hK]; exact z2.1, shaped_of z1.2.1 (Nat.le_trans z1.2.2 (by decide)), shaped_of z2.2.1 (Nat.le_trans z2.2.2 (by decide)), ?_⟩
      rw [pu_eqv 20 _ _ p1 p2]
      exact q ρ H _ Ext.refl R (.bl _)
theorem op_gt_str' : OpR X (compareOp .Gt) (fun x y H Q => ∃ i j, x = .str i ∧ y = .str j ∧ Q (.bl (decide (tl j < tl i))) H) := by
  rintro pins s σ H x y v u Q I r1 r2 ⟨i, j, rfl, rfl, q⟩
  obtain ⟨t, rfl⟩ := r1
  obtain ⟨t', rfl⟩ := r2
  exact PySem.P.gt_str ⟨.bl _, H, I, rfl, q⟩
theorem op_ltV : OpR X (compareOp .Lt) (VOp L oLt) := by
  refine OpR.imp (OpR.or op_lt op_lt_str) ?_
  rintro x y H Q ⟨ρ, st, a, b, d, R, ra, rb, e, q⟩
  unfold oLt at e
  split at e
  · cases ra; cases rb; cases e
    exact .inl ⟨_, _, rfl, rfl, q ρ H _ Ext.refl R (.bl _)⟩
  · obtain ⟨x', rfl, rfl⟩ := rep_str ra
    obtain ⟨y', rfl, rfl⟩ := rep_str rb
    cases e
    exact .inr ⟨_, _, rfl, rfl, q ρ H _ Ext.refl R (.bl _)⟩
  · cases e
theorem op_gtV : OpR X (compareOp .Gt) (VOp L oGt) := by
  refine OpR.imp (OpR.or op_gt op_gt_str') ?_
  rintro x y H Q ⟨ρ, st, a, b, d, R, ra, rb, e, q⟩
  unfold oGt at e
  split at e
  · cases ra; cases rb; cases e
    exact .inl ⟨_, _, rfl, rfl, q ρ H _ Ext.refl R (.bl _)⟩
  · obtain ⟨x', rfl, rfl⟩ := rep_str ra
    obtain ⟨y', rfl, rfl⟩ := rep_str rb
    cases e
    exact .inr ⟨_, _, rfl, rfl, q ρ H _ Ext.refl R (.bl _)⟩
  · cases e
theorem op_leV : OpR X (compareOp .LtE) (VOp L oLe) := by
  refine OpR.imp op_le ?_
  rintro x y H Q ⟨ρ, st, a, b, d, R, ra, rb, e, q⟩
  unfold oLe at e
  split at e
  · cases ra; cases rb; cases e
    exact ⟨_, _, rfl, rfl, q ρ H _ Ext.refl R (.bl _)⟩
  · cases e
theorem op_geV : OpR X (compareOp .GtE) (VOp L oGe) := by
  refine OpR.imp op_ge ?_
  rintro x y H Q ⟨ρ, st, a, b, d, R, ra, rb, e, q⟩
  unfold oGe at e
  split at e
  · cases ra; cases rb; cases e
    exact ⟨_, _, rfl, rfl, q ρ H _ Ext.refl R (.bl _)⟩
  · cases e
/-! ### in, is -/
theorem inStr_rep {c s : List Nat} {k : Bool} {x y : Str} (e : inStr c s = some k) (hx : tl x = c) (hy : tl y = s) : (!(Builtin.Str.occurrences y x 0 y.length 1).isEmpty) = k := by
  unfold inStr at e
  split at e
  · rename_i a
    cases e
    have ex : x = ⟨#[a]⟩ := ext_tl hx
    subst ex hy
    rw [StrLaws.found_one]
    simp
  · cases e
theorem oIn_bl {x y : D} {st : St} {d : D} (e : oIn x y st = some d) : ∃ k, d = .bl k := by
  unfold oIn at e
  split at e
  · split at e
    · obtain ⟨k, _, rfl⟩ := Option.map_eq_some_iff.mp e; exact ⟨k, rfl⟩
    · cases e
  · obtain ⟨k, _, rfl⟩ := Option.map_eq_some_iff.mp e; exact ⟨k, rfl⟩
  · split at e
    · obtain ⟨k, _, rfl⟩ := Option.map_eq_some_iff.mp e; exact ⟨k, rfl⟩
    · cases e
theorem any_pus {a : D} (ha : a.pu 20 = true) : ∀ l : List D, l.all (D.pu 20) = true → ((toPys l).any fun z => PyData.eqv z (toPy a)) = l.any fun y => y.eqv a := by
  intro l
  induction l with
  | nil => intro _; rfl
  | cons d ds ih =>
    intro f
    rw [List.all_cons, Bool.and_eq_true] at f
    simp only [toPys, List.any_cons, ih f.2, pu_eqv 20 d a f.1 ha]
def rInDT (K : PySem.W.Frag) : R2 := fun x y H Q => ∃ d ds, Dp K H x d ∧ Dp K H y (.tuple ds) ∧ SeqAt.shaped d = true ∧ SeqAt.shaped (.list ds) = true ∧ Q (.bl (ds.any fun z => PyData.eqv z d)) H
def rNotInDT (K : PySem.W.Frag) : R2 := fun x y H Q => ∃ d ds, Dp K H x d ∧ Dp K H y (.tuple ds) ∧ SeqAt.shaped d = true ∧ SeqAt.shaped (.list ds) = true ∧ Q (.bl (!ds.any fun z => PyData.eqv z d)) H
theorem op_inDT (hu : X.A.units + 65 < cLine) : OpR X (compareOp .In) (rInDT X.K) := by
  intro pins s σ H x y v u Q I rx ry h
  obtain ⟨d, ds, hd, he, sd, se, q⟩ := h
  obtain ⟨as, r1⟩ := Dp.reads I d x v hd rx
  obtain ⟨bs, r2⟩ := Dp.reads I (.tuple ds) y u he ry
  exact SeqAt.in_tuple_reads r2 r1 (SeqAt.canLay_of_shaped se) (SeqAt.canLay_of_shaped sd) (PyProof.Rows.room_in_shaped sd hu) ⟨.bl _, H, I, rfl, q⟩
theorem op_notInDT (hu : X.A.units + 65 < cLine) : OpR X (compareOp .NotIn) (rNotInDT X.K) := by
  intro pins s σ H x y v u Q I rx ry h
  obtain ⟨d, ds, hd, he, sd, se, q⟩ := h
  obtain ⟨as, r1⟩ := Dp.reads I d x v hd rx
  obtain ⟨bs, r2⟩ := Dp.reads I (.tuple ds) y u he ry
  exact SeqAt.notIn_tuple_reads r2 r1 (SeqAt.canLay_of_shaped se) (SeqAt.canLay_of_shaped sd) (PyProof.Rows.room_in_shaped sd hu) ⟨.bl _, H, I, rfl, q⟩
/-- the three kinds of «in» -/
theorem oIn_cases {ρ : Ly} {st : St} {H : Hp} {x y : V} {a b : D} {k : Bool} (R : Rel L ρ st H) (ra : Rep L ρ st H x a) (rb : Rep L ρ st H y b) (e : oIn a b st = some (.bl k)) :
    (∃ i j, x = .str i ∧ y = .str j ∧ (!(Builtin.Str.occurrences j i 0 j.length 1).isEmpty) = k) ∨
    (∃ p xs, y = .ref p ∧ (SqL L.K H p xs ∨ SqT L.K H p xs) ∧ flatV x = true ∧ xs.all flatV = true ∧ inV x xs = k) ∨
    (∃ d ds, Dp L.K H x d ∧ (Dp L.K H y (.list ds) ∨ Dp L.K H y (.tuple ds)) ∧ SeqAt.shaped d = true ∧ SeqAt.shaped (.list ds) = true ∧ (ds.any fun z => PyData.eqv z d) = k) := by
  unfold oIn at e
  split at e
  · split at e
    · obtain ⟨x', rfl, hx⟩ := rep_str ra
      obtain ⟨y', rfl, hy⟩ := rep_str rb
      obtain ⟨k', hk, ek⟩ := Option.map_eq_some_iff.mp e
      cases ek
      exact .inl ⟨x', y', rfl, rfl, inStr_rep hk hx hy⟩
    · cases e
  · obtain ⟨p, xs, rfl, t1, r1⟩ := rep_tup rb
    obtain ⟨k', hk, ek⟩ := Option.map_eq_some_iff.mp e
    cases ek
    unfold inT at hk
    split at hk
    · rename_i hf
      rw [Bool.and_eq_true] at hf
      cases hk
      exact .inr (.inl ⟨p, xs, rfl, .inr t1.sq, flat_rep ra hf.1, flats_rep r1 hf.2, any_flat ra hf.1 r1 hf.2⟩)
    · split at hk
      · rename_i hf
        rw [Bool.and_eq_true] at hf
        cases hk
        have z1 := pu_dp 20 _ _ ra hf.1
        have z2 := pus_dp 20 _ xs r1 hf.2
        refine .inr (.inr ⟨_, _, z1.1, .inr (.tup t1.sq z2.1), shaped_of z1.2.1 (Nat.le_trans z1.2.2 (by decide)), shaped_of (by simp only [PyData.canLay0]; exact z2.2.1) (by simp only [PyData.depth]; have := z2.2.2; omega), ?_⟩)
        exact any_pus hf.1 _ hf.2
      · cases hk
  · split at e
    · rename_i l hl
      obtain ⟨p, xs, rfl, t1, r1, _⟩ := asL_rep R rb hl
      obtain ⟨k', hk, ek⟩ := Option.map_eq_some_iff.mp e
      cases ek
      unfold inL at hk
      split at hk
      · rename_i hf
        rw [Bool.and_eq_true] at hf
        cases hk
        exact .inr (.inl ⟨p, xs, rfl, .inl t1, flat_rep ra hf.1, flats_rep r1 hf.2, any_flat ra hf.1 r1 hf.2⟩)
      · split at hk
        · rename_i hf
          rw [Bool.and_eq_true] at hf
          cases hk
          have z1 := pu_dp 20 _ _ ra hf.1
          have z2 := pus_dp 20 l xs r1 hf.2
          refine .inr (.inr ⟨_, _, z1.1, .inl (.lst t1 z2.1), shaped_of z1.2.1 (Nat.le_trans z1.2.2 (by decide)), shaped_of (by simp only [PyData.canLay0]; exact z2.2.1) (by simp only [PyData.depth]; have := z2.2.2; omega), ?_⟩)
          exact any_pus hf.1 l hf.2
        · cases hk
    · cases e
theorem op_inV (hK : X.K = L.K) (hu : X.A.units + 65 < cLine) : OpR X (compareOp .In) (VOp L oIn) := by
  refine OpR.imp (OpR.or op_in_str (OpR.or op_in_seq (OpR.or (op_inD hu) (op_inDT hu)))) ?_
  rintro x y H Q ⟨ρ, st, a, b, d, R, ra, rb, e, q⟩
  obtain ⟨k, rfl⟩ := oIn_bl e
  have z := q ρ H _ Ext.refl R (.bl k)
  rcases oIn_cases R ra rb e with ⟨i, j, rfl, rfl, ek⟩ | ⟨p, xs, rfl, h1, h2, h3, ek⟩ | ⟨d, ds, h1, h2 | h2, h3, h4, ek⟩
  · exact .inl ⟨i, j, rfl, rfl, by rw [ek]; exact z⟩
  · exact .inr (.inl ⟨p, xs, rfl, by rw [hK]; exact h1, h2, h3, by rw [ek]; exact z⟩)
  · exact .inr (.inr (.inl ⟨d, ds, by rw [hK]; exact h1, by rw [hK]; exact h2, h3, h4, by rw [ek]; exact z⟩))
  · exact .inr (.inr (.inr ⟨d, ds, by rw [hK]; exact h1, by rw [hK]; exact h2, h3, h4, by rw [ek]; exact z⟩))
theorem op_notInV (hK : X.K = L.K) (hu : X.A.units + 65 < cLine) : OpR X (compareOp .NotIn) (VOp L oNotIn) := by
  refine OpR.imp (OpR.or op_notin_str (OpR.or op_notIn_seq (OpR.or (op_notInD hu) (op_notInDT hu)))) ?_
  rintro x y H Q ⟨ρ, st, a, b, d, R, ra, rb, e, q⟩
  unfold oNotIn at e
  split at e
  · rename_i k hk
    cases e
    have z := q ρ H _ Ext.refl R (.bl _)
    rcases oIn_cases R ra rb hk with ⟨i, j, rfl, rfl, ek⟩ | ⟨p, xs, rfl, h1, h2, h3, ek⟩ | ⟨d, ds, h1, h2 | h2, h3, h4, ek⟩
    · exact .inl ⟨i, j, rfl, rfl, by rw [ek]; exact z⟩
    · exact .inr (.inl ⟨p, xs, rfl, by rw [hK]; exact h1, h2, h3, by rw [if_pos rfl, ek]; exact z⟩)
    · exact .inr (.inr (.inl ⟨d, ds, by rw [hK]; exact h1, by rw [hK]; exact h2, h3, h4, by rw [ek]; exact z⟩))
    · exact .inr (.inr (.inr ⟨d, ds, by rw [hK]; exact h1, by rw [hK]; exact h2, h3, h4, by rw [ek]; exact z⟩))
  · cases e
theorem non_dec {ρ : Ly} {st : St} {H : Hp} {x : V} {a : D} (ra : Rep L ρ st H x a) : decide (x = V.non) = (match a with | .non => true | _ => false) := by
  cases ra <;> rfl
/-- x is True, x is False -/
inductive IsB (b : Bool) : V → Bool → Prop
  | non : IsB b .non false
  | bl (a : Bool) : IsB b (.bl a) (a == b)
  | int (i : Int) : IsB b (.int i) false
  | str (s : Str) : IsB b (.str s) false
  | ref (a : Addr) : IsB b (.ref a) false
theorem isB_rep {ρ : Ly} {st : St} {H : Hp} {x : V} {a : D} {b : Bool} (ra : Rep L ρ st H x a) : IsB b x (match a with | .bl a => a == b | _ => false) := by
  cases ra <;> constructor
theorem op_isB : OpR X (compareOp .Is) (fun x y H Q => ∃ b r, y = .bl b ∧ IsB b x r ∧ Q (.bl r) H) := by
  rintro pins s σ H x y v u Q I rx ry ⟨b, r, rfl, h, q⟩
  cases ry
  cases h with
  | non => cases rx; exact wpAny_is_plain rfl (fin_bl I q rfl)
  | bl a => cases rx; exact wpAny_is_plain rfl (fin_bl I q (by cases a <;> cases b <;> rfl))
  | int i => obtain ⟨t, rfl⟩ := rx; exact wpAny_is_plain rfl (fin_bl I q rfl)
  | str i => obtain ⟨t, rfl⟩ := rx; exact wpAny_is_plain rfl (fin_bl I q rfl)
  | ref a => cases rx; exact wpAny_is_plain rfl (fin_bl I q rfl)
theorem op_isNotB : OpR X (compareOp .IsNot) (fun x y H Q => ∃ b r, y = .bl b ∧ IsB b x r ∧ Q (.bl (!r)) H) := by
  rintro pins s σ H x y v u Q I rx ry ⟨b, r, rfl, h, q⟩
  cases ry
  cases h with
  | non => cases rx; exact wpAny_isNot_plain rfl (fin_bl I q rfl)
  | bl a => cases rx; exact wpAny_isNot_plain rfl (fin_bl I q (by cases a <;> cases b <;> rfl))
  | int i => obtain ⟨t, rfl⟩ := rx; exact wpAny_isNot_plain rfl (fin_bl I q rfl)
  | str i => obtain ⟨t, rfl⟩ := rx; exact wpAny_isNot_plain rfl (fin_bl I q rfl)
  | ref a => cases rx; exact wpAny_isNot_plain rfl (fin_bl I q rfl)
theorem op_isV : OpR X (compareOp .Is) (VOp L oIs) := by
  refine OpR.imp (OpR.or op_isN op_isB) ?_
  rintro x y H Q ⟨ρ, st, a, b, d, R, ra, rb, e, q⟩
  unfold oIs at e
  split at e
  · cases rb
    refine .inl ⟨rfl, ?_⟩
    rw [non_dec ra]
    split at e
    · cases e; exact q ρ H _ Ext.refl R (.bl _)
    · rename_i h
      cases e
      cases ra <;> first | exact q ρ H _ Ext.refl R (.bl _) | exact absurd rfl h
  · cases rb
    refine .inr ⟨_, _, rfl, isB_rep ra, ?_⟩
    split at e
    · cases e; exact q ρ H _ Ext.refl R (.bl _)
    · rename_i h
      cases e
      cases ra <;> first | exact q ρ H _ Ext.refl R (.bl _) | exact absurd rfl (h _)
  · cases e
theorem op_isNotV : OpR X (compareOp .IsNot) (VOp L oIsNot) := by
  refine OpR.imp (OpR.or op_notN op_isNotB) ?_
  rintro x y H Q ⟨ρ, st, a, b, d, R, ra, rb, e, q⟩
  unfold oIsNot at e
  split at e
  · cases rb
    refine .inl ⟨rfl, ?_⟩
    rw [non_dec ra]
    split at e
    · cases e; exact q ρ H _ Ext.refl R (.bl _)
    · rename_i h
      cases e
      cases ra <;> first | exact q ρ H _ Ext.refl R (.bl _) | exact absurd rfl h
  · cases rb
    refine .inr ⟨_, _, rfl, isB_rep ra, ?_⟩
    split at e
    · cases e; exact q ρ H _ Ext.refl R (.bl _)
    · rename_i h
      cases e
      cases ra <;> first | exact q ρ H _ Ext.refl R (.bl _) | exact absurd rfl (h _)
  · cases e
/-! ### an item -/
theorem ixN_same (n : Nat) (i : Int) : TH.ixN n i = L2.ixN n i := rfl
theorem atI_of {α : Type} {l : List α} {i : Int} {v : α} (e : ((TH.ixN l.length i).bind fun j => l[j]?) = some v) : atI l i = some v := by
  unfold atI
  rw [← ixN_same]
  exact e
theorem op_ixV (hK : X.K = L.K) : IxR X (VOp L oIx) := by
  refine IxR.imp ix_seq ?_
  rintro x y H Q ⟨ρ, st, a, b, d, R, ra, rb, e, q⟩
  have bnd : ∀ {l : List D} {xs : List V} {i : Int}, Reps L ρ st H xs l → ((TH.ixN l.length i).bind fun j => l[j]?) = some d → ∃ v, atI xs i = some v ∧ Rep L ρ st H v d := fun {l xs i} r e => by
    cases hj : TH.ixN l.length i with
    | none => rw [hj] at e; cases e
    | some j =>
      rw [hj] at e
      obtain ⟨v, h1, h2⟩ := r.got e
      refine ⟨v, ?_, h2⟩
      unfold atI
      rw [← ixN_same, r.length, hj]
      exact h1
  unfold oIx at e
  split at e
  · cases rb
    split at e
    · split at e
      · rename_i s hl
        obtain ⟨x', rfl, rfl⟩ := rep_str ra
        cases hj : TH.ixN (tl x').length _ with
        | none => rw [hj] at e; cases e
        | some j =>
          rw [hj] at e
          simp only [Option.bind_some] at e
          obtain ⟨c, hc, ec⟩ := Option.map_eq_some_iff.mp e
          subst ec
          refine .inr (.inr ⟨x', _, c, rfl, rfl, by rw [len_tl, ← LN_eq]; exact hl, ?_, q ρ H _ Ext.refl R (rep_mk _ rfl)⟩)
          unfold atI
          rw [← ixN_same, hj]
          exact hc
      · cases e
    · obtain ⟨p, xs, rfl, t1, r1⟩ := rep_tup ra
      obtain ⟨v, h1, h2⟩ := bnd r1 e
      exact .inr (.inl ⟨p, xs, _, v, rfl, rfl, by rw [hK]; exact t1.sq, h1, q ρ H _ Ext.refl R h2⟩)
    · split at e
      · rename_i l hl
        obtain ⟨p, xs, rfl, t1, r1, _⟩ := asL_rep R ra hl
        obtain ⟨v, h1, h2⟩ := bnd r1 e
        exact .inl ⟨p, xs, _, v, rfl, rfl, by rw [hK]; exact t1, h1, q ρ H _ Ext.refl R h2⟩
      · cases e
  · cases e
end
end TH
end
section
set_option Elab.async false
set_option linter.all false
set_option autoImplicit false
set_option maxRecDepth 100000
/-! TH4: calls, methods, what is walked, comprehensions. -/
namespace TH
open PySem L2 TL

/-- a def's promise: what the evaluation says -/
def spC (L : Lk) (c : List D → St → RE) : Sp := fun vs H Q E => ∃ ρ st ds, Rel L ρ st H ∧ Reps L ρ st H vs ds ∧ PostR L (fun cls d _ H => E cls d H) [] (fE L Q) ρ st H (c ds st)
section
variable {X : Cx} {L : Lk} {W : WX} {a b e o : Expr} {es : List Expr} {f g : EM} {fa : AM} {pos p apos : Pos}
theorem PostR.wish {α : Type} {W' : WX} {σ σ' : Sl} {F : Fn α} {ρ : Ly} {st : St} {H : Hp} {r : RR α} (h : PostR L W σ F ρ st H r) (i : ∀ c H, W c none σ H → W' c none σ' H) : PostR L W' σ' F ρ st H r := by
  cases r with
  | ok d st' => exact h
  | exn c st' => exact fun ρ' H' e R => i _ _ (h ρ' H' e R)
  | stuck => exact h
/-- f(..), f a def of the text -/
theorem de_call {k fi : Nat} {c : Calls} {f : Addr} {fd : FuncData} {ps : List Str} {x : Str} (tk : Takes X W) (F : FnOk X.prog X.w X.K X.mg X.base (L2.CX X.prog X.w) k f fd ps (spC L (c fi))) (hr : Room k X.A) (hm : X.mg x = some (.ref f)) (hk : PySem.W.keepIn X.K (.ref f) = true)
    (hb : Binds X.K fd ps []) (ha : PA X (e :: es) (wA L W fa)) (hg : Gl X x := by rfl) (hdb : (x == ("__debug__" : Str)) = false := by decide) (he : starEach (e :: es) X.env = (false, eval e X.env) :: starEach es X.env := by rfl) (hpl : (backTo pos (starEach es X.env)).any (·.1) = false := by rfl) :
    PE X (.Call (.Name x p) (e :: es) [] pos) (wE L W (xCall c fi fa)) := by
  refine PE.imp (pe_callS F hr hg hm hk hb (fun σ => passAt tk σ) ha hdb he hpl) ?_
  rintro σ H Q ⟨ρ, st, env, R, N, q⟩
  refine wA.mono ?_ (wA_bind R N q)
  rintro vs H1 ⟨ρ1, st1, ds, e1, R1, N1, r1, q1⟩
  exact ⟨ρ1, st1, ds, R1, r1, q1.wish fun _ _ z => z⟩
theorem de_call0 {k fi : Nat} {c : Calls} {f : Addr} {fd : FuncData} {ps : List Str} {x : Str} (tk : Takes X W) (F : FnOk X.prog X.w X.K X.mg X.base (L2.CX X.prog X.w) k f fd ps (spC L (c fi))) (hr : Room k X.A) (hm : X.mg x = some (.ref f)) (hk : PySem.W.keepIn X.K (.ref f) = true)
    (hb : Binds X.K fd ps []) (hg : Gl X x := by rfl) (hdb : (x == ("__debug__" : Str)) = false := by decide) : PE X (.Call (.Name x p) [] [] pos) (wE L W (xCall c fi aNil)) := by
  refine ⟨fun pins s σ H Q I q => ?_⟩
  obtain ⟨ρ, st, env, R, N, q⟩ := q
  refine wpAny_Call_Name_kw (ld_glob I hg hm ?_ hdb)
  refine PySem.W.callWith_K0 I.kIn hk (run_fnS (us := []) (vs := []) (E := WE W) F hr hb (passAt tk σ) I .nil ⟨ρ, st, [], R, .nil, ?_⟩)
  exact PostR.wish (W := W) (σ := σ) q fun _ _ z => z
/-- f(..), f a built-in function of values -/
theorem de_blt {id : String} {o : List D → St → Option D} {x : Str} (hc : CallR X (.builtin id) (VArgs L o)) (hm : X.mg x = none) (hv : bootBuiltins x = some (.builtin id)) (ha : PA X (e :: es) (wA L W fa)) (hg : Gl X x := by rfl) (hn : x ≠ "__name__" := by decide)
    (hdb : (x == ("__debug__" : Str)) = false := by decide) (he : starEach (e :: es) X.env = (false, eval e X.env) :: starEach es X.env := by rfl) (hpl : (backTo pos (starEach es X.env)).any (·.1) = false := by rfl) :
    PE X (.Call (.Name x p) (e :: es) [] pos) (wE L W (xB o fa)) := by
  refine PE.imp (pe_callB hc hg hm hv ha hn hdb he hpl) ?_
  rintro σ H Q ⟨ρ, st, env, R, N, q⟩
  refine wA.mono ?_ (wA_bind R N q)
  rintro vs H1 ⟨ρ1, st1, ds, e1, R1, N1, r1, q1⟩
  obtain ⟨d, ed, q2⟩ := ofO_post q1
  exact ⟨ρ1, st1, ds, d, R1, r1, ed, fun ρ' H' v e R r => q2 ρ' H' e R v r⟩
theorem de_ty {id : String} {o : List D → St → Option D} {x : Str} (hc : CallR X (.type id) (VArgs L o)) (hm : X.mg x = none) (hv : bootBuiltins x = some (.type id)) (ha : PA X (e :: es) (wA L W fa)) (hg : Gl X x := by rfl) (hn : x ≠ "__name__" := by decide)
    (hdb : (x == ("__debug__" : Str)) = false := by decide) (he : starEach (e :: es) X.env = (false, eval e X.env) :: starEach es X.env := by rfl) (hpl : (backTo pos (starEach es X.env)).any (·.1) = false := by rfl) :
    PE X (.Call (.Name x p) (e :: es) [] pos) (wE L W (xB o fa)) := by
  refine PE.imp (pe_callTy hc hg hm hv ha hn hdb he hpl) ?_
  rintro σ H Q ⟨ρ, st, env, R, N, q⟩
  refine wA.mono ?_ (wA_bind R N q)
  rintro vs H1 ⟨ρ1, st1, ds, e1, R1, N1, r1, q1⟩
  obtain ⟨d, ed, q2⟩ := ofO_post q1
  exact ⟨ρ1, st1, ds, d, R1, r1, ed, fun ρ' H' v e R r => q2 ρ' H' e R v r⟩
/-! ### built-in functions by values -/
theorem reps1 {ρ : Ly} {st : St} {H : Hp} {vs : List V} {d : D} (r : Reps L ρ st H vs [d]) : ∃ v, vs = [v] ∧ Rep L ρ st H v d := by
  cases r with
  | cons h t => cases t; exact ⟨_, rfl, h⟩
theorem reps2 {ρ : Ly} {st : St} {H : Hp} {vs : List V} {d d2 : D} (r : Reps L ρ st H vs [d, d2]) : ∃ v w, vs = [v, w] ∧ Rep L ρ st H v d ∧ Rep L ρ st H w d2 := by
  cases r with
  | cons h t =>
    obtain ⟨w, rfl, h2⟩ := reps1 t
    exact ⟨_, _, rfl, h, h2⟩
theorem cr_lenV (hK : X.K = L.K) : CallR X (.builtin "len") (VArgs L bLen) := by
  refine CallR.imp (CallR.or call_len_str (CallR.or call_len_seq (CallR.or call_lenD call_len_dT))) ?_
  rintro xs H Q ⟨ρ, st, ds, d, R, r, e, q⟩
  unfold bLen at e
  split at e
  · split at e
    · rename_i s hl
      obtain ⟨v, rfl, r1⟩ := reps1 r
      obtain ⟨x, rfl, rfl⟩ := rep_str r1
      cases e
      refine .inl ⟨x, rfl, by rw [len_tl, ← LN_eq]; exact hl, ?_⟩
      rw [len_tl]
      exact q ρ H _ Ext.refl R (.int _)
    · cases e
  · obtain ⟨v, rfl, r1⟩ := reps1 r
    obtain ⟨p, ys, rfl, t1, t2⟩ := rep_tup r1
    cases e
    refine .inr (.inl ⟨p, ys, rfl, .inr (by rw [hK]; exact t1.sq), ?_⟩)
    rw [t2.length]
    exact q ρ H _ Ext.refl R (.int _)
  · split at e
    · rename_i l hl
      obtain ⟨v, rfl, r1⟩ := reps1 r
      obtain ⟨p, ys, rfl, t1, t2, _⟩ := asL_rep R r1 hl
      cases e
      refine .inr (.inl ⟨p, ys, rfl, .inl (by rw [hK]; exact t1), ?_⟩)
      rw [t2.length]
      exact q ρ H _ Ext.refl R (.int _)
    · obtain ⟨v, rfl, r1⟩ := reps1 r
      cases r1 with
      | @ref a n h1 =>
        simp only at e
        cases hn : st[n]? with
        | none => rw [hn] at e; cases e
        | some ob =>
          rw [hn] at e
          cases ob with
          | md t kvs =>
            cases e
            have z := R.ob _ a _ h1 hn
            cases t with
            | false =>
              obtain ⟨ks, z1, z2⟩ := z
              refine .inr (.inr (.inl ⟨a, ks, rfl, z1, ?_⟩))
              rw [z2.length]
              exact q ρ H _ Ext.refl R (.int _)
            | true =>
              obtain ⟨ks, z1, z2⟩ := z
              refine .inr (.inr (.inr ⟨a, ks, rfl, z1, ?_⟩))
              rw [z2.length]
              exact q ρ H _ Ext.refl R (.int _)
          | _ => cases e
      | _ => cases e
  · cases e
theorem cr_ordV : CallR X (.builtin "ord") (VArgs L bOrd) := by
  refine CallR.imp call_ord ?_
  rintro xs H Q ⟨ρ, st, ds, d, R, r, e, q⟩
  unfold bOrd at e
  split at e
  · obtain ⟨v, rfl, r1⟩ := reps1 r
    obtain ⟨x, rfl, hx⟩ := rep_str r1
    cases e
    rename_i c
    have ex : x = ⟨#[c]⟩ := ext_tl hx
    subst ex
    exact ⟨_, rfl, rfl, q ρ H _ Ext.refl R (.int _)⟩
  · cases e
theorem bls_rep {ρ : Ly} {st : St} {H : Hp} : ∀ {l : List D} {xs : List V} {bs : List Bool}, Reps L ρ st H xs l → blsOf l = some bs → xs = bs.map V.bl
  | [], _, _, r, e => by cases r; simp [blsOf] at e; subst e; rfl
  | .bl b :: l, _, _, .cons h t, e => by
    simp only [blsOf] at e
    obtain ⟨bs', e1, rfl⟩ := Option.map_eq_some_iff.mp e
    cases h
    rw [bls_rep t e1]
    rfl
  | .non :: _, _, _, _, e => by simp [blsOf] at e
  | .int _ :: _, _, _, _, e => by simp [blsOf] at e
  | .str _ :: _, _, _, _, e => by simp [blsOf] at e
  | .tup _ :: _, _, _, _, e => by simp [blsOf] at e
  | .lst _ :: _, _, _, _, e => by simp [blsOf] at e
  | .ref _ :: _, _, _, _, e => by simp [blsOf] at e
  | .exc _ :: _, _, _, _, e => by simp [blsOf] at e
theorem cr_allV (hK : X.K = L.K) (hc : X.calm = true) : CallR X (.builtin "all") (VArgs L bAll) := by
  refine CallR.imp (cr_all hc) ?_
  rintro xs H Q ⟨ρ, st, ds, d, R, r, e, q⟩
  unfold bAll at e
  split at e
  · split at e
    · rename_i l hl
      obtain ⟨v, rfl, r1⟩ := reps1 r
      obtain ⟨p, ys, rfl, t1, t2, _⟩ := asL_rep R r1 hl
      obtain ⟨bs, eb, rfl⟩ := Option.map_eq_some_iff.mp e
      refine ⟨p, bs, rfl, ?_, q ρ H _ Ext.refl R (.bl _)⟩
      rw [hK, ← bls_rep t2 eb]
      exact t1
    · cases e
  · cases e
theorem cr_anyV (hK : X.K = L.K) (hc : X.calm = true) : CallR X (.builtin "any") (VArgs L bAny) := by
  refine CallR.imp (cr_any hc) ?_
  rintro xs H Q ⟨ρ, st, ds, d, R, r, e, q⟩
  unfold bAny at e
  split at e
  · split at e
    · rename_i l hl
      obtain ⟨v, rfl, r1⟩ := reps1 r
      obtain ⟨p, ys, rfl, t1, t2, _⟩ := asL_rep R r1 hl
      obtain ⟨bs, eb, rfl⟩ := Option.map_eq_some_iff.mp e
      refine ⟨p, bs, rfl, ?_, q ρ H _ Ext.refl R (.bl _)⟩
      rw [hK, ← bls_rep t2 eb]
      exact t1
    · cases e
  · cases e
theorem cr_maxV (hc : X.calm = true) : CallR X (.builtin "max") (VArgs L bMax2) := by
  refine CallR.imp (call_max2 hc) ?_
  rintro xs H Q ⟨ρ, st, ds, d, R, r, e, q⟩
  unfold bMax2 at e
  split at e
  · obtain ⟨v, w, rfl, r1, r2⟩ := reps2 r
    cases r1; cases r2; cases e
    exact ⟨_, _, rfl, q ρ H _ Ext.refl R (.int _)⟩
  · cases e
theorem cr_minV (hc : X.calm = true) : CallR X (.builtin "min") (VArgs L bMin2) := by
  refine CallR.imp (call_min2 hc) ?_
  rintro xs H Q ⟨ρ, st, ds, d, R, r, e, q⟩
  unfold bMin2 at e
  split at e
  · obtain ⟨v, w, rfl, r1, r2⟩ := reps2 r
    cases r1; cases r2; cases e
    exact ⟨_, _, rfl, q ρ H _ Ext.refl R (.int _)⟩
  · cases e
theorem cr_intV : CallR X (.type "int") (VArgs L bInt) := by
  refine CallR.imp call_int1 ?_
  rintro xs H Q ⟨ρ, st, ds, d, R, r, e, q⟩
  unfold bInt at e
  split at e
  · obtain ⟨v, rfl, r1⟩ := reps1 r
    cases r1; cases e
    exact .inl ⟨_, rfl, q ρ H _ Ext.refl R (.int _)⟩
  · obtain ⟨v, rfl, r1⟩ := reps1 r
    cases r1; cases e
    exact .inr ⟨_, rfl, q ρ H _ Ext.refl R (.int _)⟩
  · cases e
/-! ### slices, lists glued -/
theorem sIx_same (n d : Nat) (o : Option Int) : TH.sIx n d o = HT.sIx n d o := by
  cases o <;> rfl
theorem Reps.cut {ρ : Ly} {st : St} {H : Hp} {xs : List V} {l : List D} (r : Reps L ρ st H xs l) (lo hi : Option Int) : Reps L ρ st H (cutV xs lo hi) (TH.cut l lo hi) := by
  unfold cutV TH.cut
  rw [sIx_same, sIx_same, r.length]
  exact (r.drop _).take _
/-- the bounds of a slice -/
def wP (L : Lk) (W : WX) (f : Option EM) : TO := fun σ H Q => wR L W (xPart f) σ H fun o ρ st H' => Q o H'
theorem dp_none : PO X none (wP L W none) := by
  refine ⟨fun pins s σ H Q I h => po_none.run pins s σ H Q I ?_⟩
  obtain ⟨ρ, st, env, R, N, q⟩ := h
  exact q.here R
theorem dp_some (ha : PE X e (wE L W f)) : PO X (some e) (wP L W (some f)) := by
  refine ⟨fun pins s σ H Q I h => (po_some ha).run pins s σ H Q I ?_⟩
  obtain ⟨ρ, st, env, R, N, q⟩ := h
  refine wE.mono ?_ (wE_bind R N q)
  rintro x H1 ⟨ρ1, st1, d1, e1, R1, N1, r1, q1⟩
  cases r1 with
  | int i => exact ⟨i, rfl, q1.here R1⟩
  | _ => exact q1.elim
theorem wP_bind {α : Type} {F : Fn α} {fo : Option EM} {σ : Sl} {H : Hp} {ρ : Ly} {st : St} {env : Env} {k : Option Int → St → RR α} (R : Rel L ρ st H) (N : REnv L ρ st H σ env) (h : PostR L W σ F ρ st H ((xPart fo env st).bind k)) :
    wP L W fo σ H fun o H1 => ∃ ρ1 st1, Ext ρ st H ρ1 st1 H1 ∧ Rel L ρ1 st1 H1 ∧ REnv L ρ1 st1 H1 σ env ∧ PostR L W σ F ρ1 st1 H1 (k o st1) :=
  wR.mono (fun o ρ' st' H' _ q => ⟨ρ', st', q.1, q.2.1, q.2.2.1, q.2.2.2⟩) (wR_bind R N h)
theorem wP.mono {fo : Option EM} {σ : Sl} {H : Hp} {Q Q' : Option Int → Hp → Prop} (i : ∀ v H, Q v H → Q' v H) (h : wP L W fo σ H Q) : wP L W fo σ H Q' := wR.mono (fun a ρ' st' H' _ q => i _ _ q) h
theorem dl_sl {lo hi : Option Expr} {fl fh : Option EM} {p2 : Pos} (hK : X.K = L.K) (ha : PE X e (wE L W f)) (hl : PO X lo (wP L W fl)) (hh : PO X hi (wP L W fh)) : PE X (.Subscript e (.Slice lo hi none p2) pos) (wL L W (lSl f fl fh)) := by
  refine PE.imp (pe_slice sl_list ha hl hh) ?_
  rintro σ H Q ⟨ρ, st, env, R, N, q⟩
  refine wE.mono ?_ (wE_bind R N q)
  rintro x H1 ⟨ρ1, st1, d1, e1, R1, N1, r1, q1⟩
  refine wP.mono ?_ (wP_bind R1 N1 q1)
  rintro l H2 ⟨ρ2, st2, e2, R2, N2, q2⟩
  refine wP.mono ?_ (wP_bind R2 N2 q2)
  rintro u H3 ⟨ρ3, st3, e3, R3, N3, q3⟩
  cases hx : asL st3 d1 with
  | none => rw [hx] at q3; exact q3.elim
  | some xs =>
    rw [hx] at q3
    obtain ⟨a, ys, rfl, t1, t2, _⟩ := asL_rep R3 (Rep.ext (e2.trans e3) _ _ r1) hx
    exact ⟨a, ys, rfl, by rw [hK]; exact t1, fun p hp => q3.here R3 _ _ (t2.cut l u) hp⟩
theorem tl_cutS (z : Str) (lo hi : Option Int) : tl (cutS z lo hi) = TH.cut (tl z) lo hi := by
  unfold cutS TH.cut
  rw [sIx_same, sIx_same, len_tl]
theorem cut_all {α : Type} {l : List α} {lo hi : Option Int} (h : HT.sIx l.length 0 lo = 0 ∧ HT.sIx l.length l.length hi = l.length) : TH.cut l lo hi = l := by
  unfold TH.cut
  rw [sIx_same, sIx_same, h.1, h.2]
  simp
theorem de_sl {lo hi : Option Expr} {fl fh : Option EM} {p2 : Pos} (hK : X.K = L.K) (ha : PE X e (wE L W f)) (hl : PO X lo (wP L W fl)) (hh : PO X hi (wP L W fh)) : PE X (.Subscript e (.Slice lo hi none p2) pos) (wE L W (xSl f fl fh)) := by
  refine PE.imp (pe_slice (SlR.or sl_str sl_tupA) ha hl hh) ?_
  rintro σ H Q ⟨ρ, st, env, R, N, q⟩
  refine wE.mono ?_ (wE_bind R N q)
  rintro x H1 ⟨ρ1, st1, d1, e1, R1, N1, r1, q1⟩
  refine wP.mono ?_ (wP_bind R1 N1 q1)
  rintro l H2 ⟨ρ2, st2, e2, R2, N2, q2⟩
  refine wP.mono ?_ (wP_bind R2 N2 q2)
  rintro u H3 ⟨ρ3, st3, e3, R3, N3, q3⟩
  have r3 := Rep.ext (e2.trans e3) _ _ r1
  cases d1 with
  | str s =>
    obtain ⟨z, rfl, rfl⟩ := rep_str r3
    simp only at q3
    by_cases hs : (tl z).length ≤ LN
    · rw [if_pos hs] at q3
      exact .inl ⟨z, rfl, by rw [len_tl, ← LN_eq]; exact hs, q3.here R3 _ (rep_mk _ (tl_cutS z l u))⟩
    · rw [if_neg hs] at q3
      exact q3.elim
  | tup xs =>
    obtain ⟨a, ys, rfl, t1, t2⟩ := rep_tup r3
    refine .inr ⟨a, ys, rfl, by rw [hK]; exact t1.sq, fun hw => ?_, fun _ p hp => ?_⟩
    · rw [t2.length] at hw
      simp only [cut_all hw] at q3
      exact q3.here R3 _ r3
    · exact q3 ρ3 (upd H3 p (.tup (cutV ys l u))) (ext_new R3 hp) (rel_new R3 hp) _ (.tup (⟨upd_same, imm_new R3 hp⟩) (Reps.ext (ext_new R3 hp) _ _ (t2.cut l u)))
  | _ => exact q3.elim
/-- two lists glued, wherever they stand -/
def rCatL (K : PySem.W.Frag) : R2 := fun x y H Q => ∃ l b xs zs, x = .ref l ∧ y = .ref b ∧ SqL K H l xs ∧ SqL K H b zs ∧ xs.length + zs.length ≤ sizeLine ∧ ∀ p, H p = none → Q (.ref p) (upd H p (.lst (xs ++ zs)))
theorem op_catL : OpR X (binaryOp .Add) (rCatL X.K) := by
  rintro pins s σ H x y v u Q I rx ry ⟨l, b, xs, zs, rfl, rfl, h1, h2, hz, q⟩
  cases rx
  cases ry
  obtain ⟨its, r1, ⟨⟨c1, dd1, data1, sl1⟩, n1, o1, a1, b1, k1⟩, z1⟩ := I.list h1
  obtain ⟨its2, r2, ⟨⟨c2, dd2, data2, sl2⟩, n2, o2, a2, b2, k2⟩, z2⟩ := I.list h2
  simp only at a1 k1 a2 k2
  subst a1 k1 a2 k2
  have l1 := r1.length
  have l2 := r2.length
  refine concat_meets ⟨_, o1, rfl⟩ ⟨_, o2, rfl⟩ noFill_list_add seq_list_add PySem.F.slot_list_add PySem.F.entry_list_add (PySem.F.args_list_add_2 _ _)
    (PyProof.Rows.list_addW l b its.toArray its2.toArray n1 n2 dd1 dd2 sl1 sl2 (by rw [List.size_toArray, List.size_toArray]; omega)) ⟨o1, o2, ?_⟩
  have ea : its.toArray ++ its2.toArray = (its ++ its2).toArray := by simp
  rw [ea]
  exact ⟨.ref _, _, I.lnew (t' := s.toks) (r1.append r2) (by rw [List.length_append]; omega), rfl, q _ I.fresh⟩
theorem dl_cat (hK : X.K = L.K) (ha : PE X a (wE L W f)) (hb : PE X b (wE L W g)) : PE X (.BinOp a .Add b pos) (wL L W (lCat f g)) := by
  refine PE.imp (pe_op op_catL ha hb) ?_
  rintro σ H Q ⟨ρ, st, env, R, N, q⟩
  refine wE.mono ?_ (wE_bind R N q)
  rintro x H1 ⟨ρ1, st1, d1, e1, R1, N1, r1, q1⟩
  refine wE.mono ?_ (wE_bind R1 N1 q1)
  rintro y H2 ⟨ρ2, st2, d2, e2, R2, N2, r2, q2⟩
  cases hx : asL st2 d1 with
  | none => rw [hx] at q2; exact q2.elim
  | some l1 =>
    cases hy : asL st2 d2 with
    | none => rw [hx, hy] at q2; exact q2.elim
    | some l2 =>
      rw [hx, hy] at q2
      by_cases hl : l1.length + l2.length ≤ LN
      · simp only [if_pos hl] at q2
        obtain ⟨a', xs, rfl, t1, t2, _⟩ := asL_rep R2 (Rep.ext e2 _ _ r1) hx
        obtain ⟨b', ys, rfl, t3, t4, _⟩ := asL_rep R2 r2 hy
        refine ⟨a', b', xs, ys, rfl, rfl, by rw [hK]; exact t1, by rw [hK]; exact t3, by rw [t2.length, t4.length, ← LN_eq]; exact hl, fun p hp => q2.here R2 _ _ (t2.append t4) hp⟩
      · simp only [if_neg hl] at q2
        exact q2.elim
/-- a list some times over -/
def rRepL (K : PySem.W.Frag) : R2 := fun x y H Q => ∃ l k xs, x = .ref l ∧ y = .int k ∧ SqL K H l xs ∧ 0 ≤ k ∧ k ≤ 1000 ∧ xs.length ≤ 1000 ∧ ∀ p, H p = none → Q (.ref p) (upd H p (.lst (List.replicate k.toNat xs).flatten))

theorem relvs_rep {xs : List V} {its : List Value} (r : Vals xs its) : ∀ n : Nat, Vals (List.replicate n xs).flatten (List.replicate n its).flatten
  | 0 => .nil
  | n + 1 => by rw [List.replicate_succ, List.replicate_succ, List.flatten_cons, List.flatten_cons]; exact r.append (relvs_rep r n)
theorem op_repL : OpR X (binaryOp .Mult) (rRepL X.K) := by
  rintro pins s σ H x y v u Q I rx ry ⟨l, k, xs, rfl, rfl, h1, hk0, hk1, hz, q⟩
  cases rx
  obtain ⟨t, rfl⟩ := ry
  obtain ⟨its, r1, ⟨⟨c1, dd1, data1, sl1⟩, n1, o1, a1, b1, k1⟩, z1⟩ := I.list h1
  simp only at a1 k1
  subst a1 k1
  have l1 := r1.length
  have hsl := sizeLine_eq
  have hm : its.length * k.toNat ≤ 1000 * 1000 := Nat.mul_le_mul (by omega) (by omega)
  have hm' : its.toArray.size * k.toNat ≤ 1000 * 1000 := by rw [List.size_toArray]; exact hm
  refine wpAny_binaryOp_repeat_ref (T := "list") (U := "int") (by decide) ⟨_, o1, rfl⟩ (fun s' => typeIs_int s' k t) noFill_list_mul PySem.F.fills_int_mul PySem.F.slot_int_rmul repeat_list PySem.F.slot_int_index.lookup
    (call_meets PySem.F.slot_int_rmul (typeIs_int s k t) PySem.F.entry_int_rmul (PySem.F.args_int_rmul_2 _ _) (lm_int_rmul_list_any k t l its.toArray n1 dd1 sl1)
      ⟨o1, rfl, ⟨_, o1, rfl⟩, call_meets PySem.F.slot_list_mul ⟨_, o1, rfl⟩ PySem.F.entry_list_mul (PySem.F.args_list_mul_2 _ _)
        (lm_list_mul_any l its.toArray n1 dd1 sl1 k t (by simp [Builtin.List.listFitsIndex]; omega) (by omega) (by simp only [Builtin.List.listTooLong, decide_eq_true_eq]; omega))
        ⟨o1, ?_⟩⟩)
  rw [PyProof.Rows.listMul_foldl_if]
  have hlen : (List.replicate k.toNat xs).flatten.length = k.toNat * xs.length := by simp
  exact ⟨.ref _, _, I.lnew (t' := s.toks) (relvs_rep r1 k.toNat) (by rw [hlen, l1, Nat.mul_comm]; omega), rfl, q _ I.fresh⟩
theorem Reps.rep {ρ : Ly} {st : St} {H : Hp} {xs : List V} {ds : List D} (h : Reps L ρ st H xs ds) : ∀ n : Nat, Reps L ρ st H (List.replicate n xs).flatten (List.replicate n ds).flatten
  | 0 => .nil
  | n + 1 => by rw [List.replicate_succ, List.replicate_succ, List.flatten_cons, List.flatten_cons]; exact h.append (Reps.rep h n)
theorem dl_rep (hK : X.K = L.K) (ha : PE X a (wE L W f)) (hb : PE X b (wE L W g)) : PE X (.BinOp a .Mult b pos) (wL L W (lRep f g)) := by
  refine PE.imp (pe_op op_repL ha hb) ?_
  rintro σ H Q ⟨ρ, st, env, R, N, q⟩
  refine wE.mono ?_ (wE_bind R N q)
  rintro x H1 ⟨ρ1, st1, d1, e1, R1, N1, r1, q1⟩
  refine wE.mono ?_ (wE_bind R1 N1 q1)
  rintro y H2 ⟨ρ2, st2, d2, e2, R2, N2, r2, q2⟩
  cases hx : asL st2 d1 with
  | none => rw [hx] at q2; exact q2.elim
  | some l1 =>
    cases d2 with
    | int k =>
      rw [hx] at q2
      by_cases hl : 0 ≤ k ∧ k ≤ 1000 ∧ l1.length ≤ 1000
      · simp only [if_pos hl] at q2
        cases r2
        obtain ⟨a', xs, rfl, t1, t2, _⟩ := asL_rep R2 (Rep.ext e2 _ _ r1) hx
        exact ⟨a', k, xs, rfl, rfl, by rw [hK]; exact t1, hl.1, hl.2.1, by rw [t2.length]; exact hl.2.2, fun p hp => q2.here R2 _ _ (t2.rep _) hp⟩
      · simp only [if_neg hl] at q2
        exact q2.elim
    | _ => rw [hx] at q2; exact q2.elim
/-! ### methods of built-in types -/
def VMt (L : Lk) (o : Op2) : V → List V → Hp → VK → Prop := fun x xs H Q => ∃ ρ st a b d y, Rel L ρ st H ∧ Rep L ρ st H x a ∧ xs = [y] ∧ Rep L ρ st H y b ∧ o a b st = some d ∧
  ∀ (ρ' : Ly) (H' : Hp) (v : V), Ext ρ st H ρ' st H' → Rel L ρ' st H' → Rep L ρ' st H' v d → Q v H'
theorem str_ty {ρ : Ly} {st : St} {H : Hp} {x : V} {d : D} (r : Rep L ρ st H x d) (h : isStr d st = true) : tyV L.K "str" x H := by
  cases r <;> first | rfl | (simp [isStr] at h)
theorem lst_ty {ρ : Ly} {st : St} {H : Hp} {x : V} {d : D} (R : Rel L ρ st H) (r : Rep L ρ st H x d) (h : isLst d st = true) : tyV L.K "list" x H := by
  unfold isLst at h
  cases e : asL st d with
  | none => rw [e] at h; cases h
  | some l =>
    obtain ⟨a, xs, rfl, t1, _⟩ := asL_rep R r e
    exact .inl ⟨rfl, xs, t1⟩
/-- o.m(e), m a built-in method of values -/
theorem de_bm {T id : String} {name : Str} {op : Op2} {ty : D → St → Bool} (hK : X.K = L.K) (hty : ∀ ρ st H x d, Rel L ρ st H → Rep L ρ st H x d → ty d st = true → tyV L.K T x H)
    (pa : PlainAttrs T) (slot : Slot T name id) (hmd : typeOf (.builtin id) = pure (.type "method_descriptor")) (hm : MtR X id (VMt L op)) (ho : PE X o (wE L W f)) (he : PE X e (wE L W g))
    (hbase : attributeBase o name X.env (eval o X.env) = eval o X.env := by rfl) (hfew : ((backTo pos (starEach [e] X.env)).all (fun x => !x.1) && (backToKw pos (keywordEach [] X.env)).all (fun x => x.1.isSome)
      && decide (([e] : List Expr).length + ([] : List Keyword).length + (if ([] : List Keyword).isEmpty then 0 else 1) < 30)) = true := by rfl)
    (hline : (apos.endLine == pos.line) = true := by rfl) (hs : starEach [e] X.env = (false, eval e X.env) :: starEach [] X.env := by rfl) (hplain : (backTo pos (starEach [] X.env)).any (·.1) = false := by rfl) :
    PE X (.Call (.Attribute o name apos) [e] [] pos) (wE L W (xBm ty op f g)) := by
  refine PE.imp (L2.pe_bm pa slot hmd hm ho (da_cons he da_nil hs) hbase hfew hline hs hplain) ?_
  rintro σ H Q ⟨ρ, st, env, R, N, q⟩
  refine wE.mono ?_ (wE_bind R N q)
  rintro x H1 ⟨ρ1, st1, d1, e1, R1, N1, r1, q1⟩
  by_cases ht : ty d1 st1 = true
  · rw [if_pos ht] at q1
    refine ⟨by rw [hK]; exact hty _ _ _ _ _ R1 r1 ht, ρ1, st1, env, R1, N1, ?_⟩
    have z := PostR.bind q1
    unfold aCons
    cases eg : g env st1 with
    | ok d2 st2 =>
      rw [eg] at z
      intro ρ' H' x' R' vs rs
      obtain ⟨e2, R2, q2⟩ := z ρ' H' x' R'
      obtain ⟨d, ed, q3⟩ := ofO_post q2
      obtain ⟨y, rfl, r2⟩ := reps1 rs
      exact ⟨ρ', st2, d1, d2, d, y, R2, Rep.ext x' _ _ r1, rfl, r2, ed, fun ρ' H' v e R r => q3 ρ' H' e R v r⟩
    | exn c st2 => rw [eg] at z; exact z
    | stuck => rw [eg] at z; exact z
  · rw [if_neg ht] at q1
    exact q1.elim
theorem spl_step (c a : Nat) (acc r : List Nat) : spl [c] 0 acc (a :: r) = if a = c then acc :: spl [c] 0 [] r else spl [c] 0 (acc ++ [a]) r := by
  by_cases h : a = c
  · subst h
    rw [if_pos rfl, spl_hit (by simp [pre])]
    rfl
  · rw [if_neg h, spl_miss (by simp [pre, h])]
theorem splitL_ne (c : Nat) (l : List Nat) : splitL c l ≠ [] := by
  cases l with
  | nil => simp [splitL]
  | cons a r =>
    simp only [splitL]
    split
    · simp
    · split <;> simp
theorem spl_splitL (c : Nat) : ∀ (l acc : List Nat), spl [c] 0 acc l = (match splitL c l with | [] => [acc] | p :: ps => (acc ++ p) :: ps)
  | [], acc => by rw [spl_nil]; simp [splitL]
  | a :: r, acc => by
    rw [spl_step]
    by_cases h : a = c
    · rw [if_pos h, spl_splitL c r []]
      simp only [splitL, if_pos h]
      cases e : splitL c r with
      | nil => exact absurd e (splitL_ne c r)
      | cons p ps => simp
    · rw [if_neg h, spl_splitL c r]
      simp only [splitL, if_neg h]
      cases e : splitL c r with
      | nil => exact absurd e (splitL_ne c r)
      | cons p ps => simp
theorem split_parts {x y : Str} {c : Nat} (hy : tl y = [c]) (hc : c < 256) : (Txt.split x y).map tl = splitL c (tl x) := by
  have ey : y = ⟨#[c]⟩ := ext_tl hy
  rw [split_spl x y (by rw [hy]; simp) (kind_ok (by rw [ey]; simp [hc])), hy, spl_splitL]
  cases e : splitL c (tl x) with
  | nil => exact absurd e (splitL_ne c _)
  | cons p ps => simp
theorem reps_strs {ρ : Ly} {st : St} {H : Hp} : ∀ (ys : List Str), Reps L ρ st H (ys.map V.str) ((ys.map tl).map D.str)
  | [] => .nil
  | y :: ys => .cons (.str y) (reps_strs ys)
theorem splitD_some {x y : D} {l : List D} (h : splitD x y = some l) : ∃ s c, x = .str s ∧ y = .str [c] ∧ s.length + 2 ≤ LN ∧ c < 256 ∧ l = (splitL c s).map D.str := by
  unfold splitD at h
  split at h
  · split at h
    · split at h
      · split at h
        · rename_i hl
          cases h
          exact ⟨_, _, rfl, rfl, hl.1, hl.2, rfl⟩
        · cases h
      · cases h
    · cases h
  · cases h
theorem ofL_post {F : Fn (List D)} {o : Option (List D)} {ρ : Ly} {st : St} {H : Hp} {σ : Sl} (h : PostR L W σ F ρ st H (ofL o st)) : ∃ d, o = some d ∧ PostR L W σ F ρ st H (.ok d st) := by
  cases o with
  | none => exact h.elim
  | some d => exact ⟨d, rfl, h⟩
theorem dl_split (hK : X.K = L.K) (ho : PE X o (wE L W f)) (he : PE X e (wE L W g)) (hs : starEach [e] X.env = [(false, eval e X.env)] := by rfl) (hbase : attributeBase o "split" X.env (eval o X.env) = eval o X.env := by rfl) (hline : (apos.endLine == pos.line) = true := by rfl) :
    PE X (.Call (.Attribute o "split" apos) [e] [] pos) (wL L W (lSplit f g)) := by
  refine PE.imp (pe_split ho he hs hbase hline) ?_
  rintro σ H Q ⟨ρ, st, env, R, N, q⟩
  refine wE.mono ?_ (wE_bind R N q)
  rintro x H1 ⟨ρ1, st1, d1, e1, R1, N1, r1, q1⟩
  by_cases ht : isStr d1 st1 = true
  · rw [if_pos ht] at q1
    refine ⟨?_, ?_⟩
    · cases r1 <;> first | exact ⟨_, rfl⟩ | (simp [isStr] at ht)
    refine wE.mono ?_ (wE_bind R1 N1 q1)
    rintro y H2 ⟨ρ2, st2, d2, e2, R2, N2, r2, q2⟩
    obtain ⟨l, hl, q3⟩ := ofL_post q2
    obtain ⟨s, c, rfl, rfl, h1, h2, rfl⟩ := splitD_some hl
    obtain ⟨z, rfl, rfl⟩ := rep_str r1
    obtain ⟨w, rfl, hw⟩ := rep_str r2
    refine ⟨z, w, rfl, rfl, by rw [len_tl, hw]; rfl, by rw [len_tl, ← LN_eq]; exact h1, fun p hp => ?_⟩
    have k := reps_strs (L := L) (ρ := ρ2) (st := st2) (H := H2) (Txt.split z w)
    rw [split_parts hw h2] at k
    exact q3.here R2 _ p k hp
  · rw [if_neg ht] at q1
    exact q1.elim
theorem strs_rep {ρ : Ly} {st : St} {H : Hp} : ∀ {l : List D} {xs : List V} {ps : List (List Nat)}, Reps L ρ st H xs l → strsOf l = some ps → ∃ ys : List Str, xs = ys.map V.str ∧ ys.map tl = ps
  | [], _, _, r, e => by cases r; simp [strsOf] at e; subst e; exact ⟨[], rfl, rfl⟩
  | .str b :: l, _, _, .cons h t, e => by
    simp only [strsOf] at e
    obtain ⟨bs', e1, rfl⟩ := Option.map_eq_some_iff.mp e
    obtain ⟨x, rfl, rfl⟩ := rep_str h
    obtain ⟨ys, rfl, rfl⟩ := strs_rep t e1
    exact ⟨x :: ys, rfl, rfl⟩
  | .non :: _, _, _, _, e => by simp [strsOf] at e
  | .int _ :: _, _, _, _, e => by simp [strsOf] at e
  | .bl _ :: _, _, _, _, e => by simp [strsOf] at e
  | .tup _ :: _, _, _, _, e => by simp [strsOf] at e
  | .lst _ :: _, _, _, _, e => by simp [strsOf] at e
  | .ref _ :: _, _, _, _, e => by simp [strsOf] at e
  | .exc _ :: _, _, _, _, e => by simp [strsOf] at e
theorem joinS_same (S : List Nat) : ∀ ps : List (List Nat), joinS S ps = TL.joinL S ps
  | [] => rfl
  | [p] => rfl
  | p :: q :: r => by
    unfold joinS TL.joinL
    rw [joinS_same S (q :: r)]
theorem mt_joinV (hK : X.K = L.K) : MtR X "str.join" (VMt L oJoin) := by
  refine MtR.imp mt_join ?_
  rintro x xs H Q ⟨ρ, st, a, b, d, y, R, ra, rfl, rb, e, q⟩
  unfold oJoin at e
  split at e
  · rename_i s l hl
    split at e
    · rename_i ps hp
      split at e
      · rename_i hz
        cases e
        obtain ⟨z, rfl, rfl⟩ := rep_str ra
        obtain ⟨p, ys, rfl, t1, t2, _⟩ := asL_rep R rb hl
        obtain ⟨zs, rfl, rfl⟩ := strs_rep t2 hp
        refine ⟨z, p, zs, rfl, rfl, .inl (by rw [hK]; exact t1), ?_, ?_⟩
        · rw [List.map_map, List.length_map] at hz
          rw [len_tl]
          have em : zs.map (fun u => u.length) = zs.map (List.length ∘ tl) := List.map_congr_left fun u _ => len_tl u
          rw [em]
          exact hz
        · refine q ρ H _ Ext.refl R (rep_mk _ ?_)
          rw [join_eq, tl_join, joinS_same]
      · cases e
    · cases e
  · cases e
theorem starts_tl (a b : Str) : Txt.startswith a b = (tl b).isPrefixOf (tl a) := by
  unfold Txt.startswith
  rw [StrLaws.subAt_eq, List.drop_zero, Nat.zero_add, len_tl, len_tl, Bool.eq_iff_iff, List.isPrefixOf_iff_prefix, List.prefix_iff_eq_take, Bool.and_eq_true, decide_eq_true_eq, beq_iff_eq]
  constructor
  · exact fun h => h.2.symm
  · intro h
    refine ⟨?_, h.symm⟩
    have := congrArg List.length h
    rw [List.length_take] at this
    omega
theorem mt_startsV : MtR X "str.startswith" (VMt L oStarts) := by
  refine MtR.imp mt_startswith ?_
  rintro x xs H Q ⟨ρ, st, a, b, d, y, R, ra, rfl, rb, e, q⟩
  unfold oStarts at e
  split at e
  · cases e
    obtain ⟨z, rfl, rfl⟩ := rep_str ra
    obtain ⟨w, rfl, rfl⟩ := rep_str rb
    refine ⟨z, w, rfl, rfl, ?_⟩
    rw [starts_tl]
    exact q ρ H _ Ext.refl R (.bl _)
  · cases e
/-- flat lists' count, index -/
def rCntF (K : PySem.W.Frag) : V → List V → Hp → VK → Prop := fun x xs H Q => ∃ (p : Addr) (ys : List V) (y : V), x = .ref p ∧ xs = [y] ∧ SqL K H p ys ∧ flatV y = true ∧ ys.all flatV = true ∧ Q (.int (ys.countP (fun z => eqV z y) : Nat)) H
theorem count_eqU {y : V} : ∀ {ys : List V} {us : List Value}, Vals ys us → ys.all flatV = true → us.countP (eqU y) = ys.countP fun z => eqV z y
  | _, _, .nil, _ => rfl
  | _, _, .cons r t, f => by
    rw [List.all_cons, Bool.and_eq_true] at f
    rw [List.countP_cons, List.countP_cons, count_eqU t f.2, eqU_of r f.1]
theorem mt_cntF : MtR X "list.count" (rCntF X.K) := by
  rintro pins s σ H x xs v us Q I rx rxs ⟨p, ys, y, rfl, rfl, hs, fy, fys, q⟩
  cases rx
  obtain ⟨u, rfl, ru⟩ := rxs.one
  obtain ⟨its, rv, ⟨⟨cls, dd, data, sl⟩, n, ho, hc, hdn, hd⟩, hlen⟩ := I.list hs
  simp only at hc hd
  subst hc hd
  refine call_meets PySem.F.slot_list_count ⟨_, ho, rfl⟩ PySem.F.entry_list_count (PySem.F.args_list_count_2 _ _)
    (SeqAt.list_countAt p its.toArray n dd sl u (eqU y)) ⟨ho, fun w hw => mem_eqAt ru fy rv fys w (by simpa using hw), ?_⟩
  refine ⟨.int _, H, I.tok _, ⟨s.toks, ?_⟩, q⟩
  show Value.int ((its.toArray.toList.countP (eqU y) : Nat) : Int) s.toks = _
  rw [List.toList_toArray, count_eqU rv fys]
theorem count_flat {ρ : Ly} {st : St} {H : Hp} {y : V} {d : D} (hy : Rep L ρ st H y d) (fy : d.flat = true) : ∀ {vs : List V} {ds : List D}, Reps L ρ st H vs ds → ds.all D.flat = true → (vs.countP fun z => eqV z y) = ds.countP fun z => z.eqv d
  | _, _, .nil, _ => rfl
  | _, _, .cons h t, f => by
    rw [List.all_cons, Bool.and_eq_true] at f
    rw [List.countP_cons, List.countP_cons, count_flat hy fy t f.2, flat_eqv h hy f.1 fy]
theorem mt_countV (hK : X.K = L.K) : MtR X "list.count" (VMt L oCount) := by
  refine MtR.imp mt_cntF ?_
  rintro x xs H Q ⟨ρ, st, a, b, d, y, R, ra, rfl, rb, e, q⟩
  unfold oCount at e
  split at e
  · rename_i l hl
    split at e
    · rename_i hf
      rw [Bool.and_eq_true] at hf
      cases e
      obtain ⟨p, ys, rfl, t1, t2, _⟩ := asL_rep R ra hl
      refine ⟨p, ys, y, rfl, rfl, by rw [hK]; exact t1, flat_rep rb hf.1, flats_rep t2 hf.2, ?_⟩
      rw [count_flat rb hf.1 t2 hf.2]
      exact q ρ H _ Ext.refl R (.int _)
    · cases e
  · cases e
theorem mt_indexV (hK : X.K = L.K) : MtR X "list.index" (VMt L oIndex) := by
  refine MtR.imp mt_index ?_
  rintro x xs H Q ⟨ρ, st, a, b, d, y, R, ra, rfl, rb, e, q⟩
  unfold oIndex at e
  split at e
  · rename_i l hl
    split at e
    · rename_i hf
      rw [Bool.and_eq_true] at hf
      split at e
      · rename_i j hj
        cases e
        obtain ⟨p, ys, rfl, t1, t2, _⟩ := asL_rep R ra hl
        obtain ⟨hjl, h1, h2⟩ := List.findIdx?_eq_some_iff_getElem.mp hj
        obtain ⟨v, hv, rv⟩ := t2.got (List.getElem?_eq_getElem hjl)
        have fl : ∀ m (hm : m < l.length), l[m].flat = true := fun m hm => List.all_eq_true.mp hf.2 _ (List.getElem_mem hm)
        refine ⟨p, ys, y, j, v, rfl, rfl, by rw [hK]; exact t1, flat_rep rb hf.1, flats_rep t2 hf.2, hv, ?_, fun m z' hm hz => ?_, q ρ H _ Ext.refl R (.int _)⟩
        · rw [flat_eqv rv rb (fl j hjl) hf.1]
          exact h1
        · have hml : m < l.length := Nat.lt_trans hm hjl
          obtain ⟨w, hw, rw'⟩ := t2.got (List.getElem?_eq_getElem hml)
          rw [hz] at hw
          cases hw
          rw [flat_eqv rw' rb (fl m hml) hf.1]
          have := h2 m hm
          simpa using this
      · cases e
    · cases e
  · cases e
/-- xs.append(e) -/
theorem de_app (hK : X.K = L.K) (ho : PE X o (wE L W f)) (he : PE X e (wE L W g))
    (hbase : attributeBase o "append" X.env (eval o X.env) = eval o X.env := by rfl) (hfew : ((backTo pos (starEach [e] X.env)).all (fun x => !x.1) && (backToKw pos (keywordEach [] X.env)).all (fun x => x.1.isSome)
      && decide (([e] : List Expr).length + ([] : List Keyword).length + (if ([] : List Keyword).isEmpty then 0 else 1) < 30)) = true := by rfl)
    (hline : (apos.endLine == pos.line) = true := by rfl) (hs : starEach [e] X.env = (false, eval e X.env) :: starEach [] X.env := by rfl) (hplain : (backTo pos (starEach [] X.env)).any (·.1) = false := by rfl) :
    PE X (.Call (.Attribute o "append" apos) [e] [] pos) (wE L W (xApp f g)) := by
  refine PE.imp (L2.pe_bm PySem.F.plainAttrs_list PySem.F.slot_list_append PySem.F.type_list_append mt_append ho (da_cons he da_nil hs) hbase hfew hline hs hplain) ?_
  rintro σ H Q ⟨ρ, st, env, R, N, q⟩
  refine wE.mono ?_ (wE_bind R N q)
  rintro x H1 ⟨ρ1, st1, d1, e1, R1, N1, r1, q1⟩
  by_cases ht : isLst d1 st1 = true
  · rw [if_pos ht] at q1
    refine ⟨by rw [hK]; exact lst_ty R1 r1 ht, ρ1, st1, env, R1, N1, ?_⟩
    have z := PostR.bind q1
    unfold aCons
    cases eg : g env st1 with
    | ok d2 st2 =>
      rw [eg] at z
      intro ρ' H' x' R' vs rs
      obtain ⟨e2, R2, q2⟩ := z ρ' H' x' R'
      obtain ⟨y, rfl, r2⟩ := reps1 rs
      cases r1 with
      | @ref a n h1 =>
        simp only at q2
        cases hn : st2[n]? with
        | none => rw [hn] at q2; exact q2.elim
        | some ob =>
          rw [hn] at q2
          cases ob with
          | ml l =>
            have ha := x'.pre _ _ h1
            obtain ⟨xs, z1, z2⟩ := R2.ob n a _ ha hn
            by_cases hl : l.length < LN
            · simp only [if_pos hl] at q2
              refine ⟨a, xs, y, rfl, rfl, z1, by rw [z2.length, ← LN_eq]; exact hl, ?_⟩
              have ex := ext_set (o := .lst (xs ++ [y])) (ob := .ml (l ++ [d2])) R2 ha hn id
              exact q2 ρ' _ ex (rel_set R2 ha hn id ⟨xs ++ [y], upd_same, Reps.ext ex _ _ (z2.append (.cons r2 .nil))⟩) _ .non
            · simp only [if_neg hl] at q2; exact q2.elim
          | _ => exact q2.elim
      | _ => exact q2.elim
    | exn c st2 => rw [eg] at z; exact z
    | stuck => rw [eg] at z; exact z
  · rw [if_neg ht] at q1
    exact q1.elim
end
end TH
end
section
set_option Elab.async false
set_option linter.all false
set_option autoImplicit false
set_option maxRecDepth 100000
/-! TH5: what is walked, targets, comprehensions. -/
namespace TH
open PySem L2 TL

/-- the turns over items, in any heap that has all that H2 has -/
def Turns (L : Lk) (J : It) (ρ2 : Ly) (st2 : St) (H2 : Hp) (l : List D) : Prop := ∀ H3 : Hp, Same H2 H3 → (∀ i, l.length ≤ i → J.stop i H3) ∧
      ∀ i d, l[i]? = some d → J.go i H3 ∧ ∀ x H4, J.yld i H3 x H4 → H4 = H3 ∧ Rep L ρ2 st2 H2 x d
/-- a walked thing's turns -/
def ItOk (L : Lk) (J : It) (ρ : Ly) (st : St) (H : Hp) : Wk → Prop
  | .data l => ∀ (ρ2 : Ly) (st2 : St) (H2 : Hp), Ext ρ st H ρ2 st2 H2 → Rel L ρ2 st2 H2 → Turns L J ρ2 st2 H2 l
  | .obj n => ∀ (ρ2 : Ly) (st2 : St) (H2 : Hp), Ext ρ st H ρ2 st2 H2 → Rel L ρ2 st2 H2 → ∀ l, st2[n]? = some (.ml l) → Turns L J ρ2 st2 H2 l
def fI (L : Lk) (R : It → Hp → Prop) : Fn Wk := fun w ρ st H => ∀ J, ItOk L J ρ st H w → R J H
def wI (L : Lk) (W : WX) (it : IM) : TI := fun σ H R => wR L W it σ H (fI L R)

section
variable {X : Cx} {L : Lk} {W : WX} {a b e o tg : Expr} {es : List Expr} {f g : EM} {pos p apos : Pos}
theorem same_tup {K : PySem.W.Frag} {H H' : Hp} {a : Addr} {xs : List V} (e : Same H H') (h : SqT K H a xs) : SqT K H' a xs := by
  rcases h with (h | ⟨o, h⟩) | h
  · exact .inl (.inl (e _ _ h))
  · exact .inl (.inr ⟨o, e _ _ h⟩)
  · exact .inr h
theorem itl_ok {K : PySem.W.Frag} {H2 : Hp} {a : Addr} {xs : List V} {l : List D} {ρ2 : Ly} {st2 : St} (h : SqL K H2 a xs) (r : Reps L ρ2 st2 H2 xs l) : Turns L (Itl K a) ρ2 st2 H2 l := by
  intro H3 same
  have h := Same.seq same h
  refine ⟨fun i hi => ⟨xs, h, by rw [r.length]; exact hi⟩, fun i d hd => ?_⟩
  obtain ⟨v, hv, rv⟩ := r.got hd
  refine ⟨⟨xs, v, h, hv⟩, fun x H3 y => ?_⟩
  obtain ⟨y1, y2⟩ := y
  have z := y2 xs h
  rw [hv] at z
  cases z
  exact ⟨y1, rv⟩
theorem itt_ok {K : PySem.W.Frag} {H2 : Hp} {a : Addr} {xs : List V} {l : List D} {ρ2 : Ly} {st2 : St} (h : SqT K H2 a xs) (r : Reps L ρ2 st2 H2 xs l) : Turns L (Itt K a) ρ2 st2 H2 l := by
  intro H3 same
  have h := same_tup same h
  refine ⟨fun i hi => ⟨xs, h, by rw [r.length]; exact hi⟩, fun i d hd => ?_⟩
  obtain ⟨v, hv, rv⟩ := r.got hd
  refine ⟨⟨xs, v, h, hv⟩, fun x H3 y => ?_⟩
  obtain ⟨y1, y2⟩ := y
  have z := y2 xs h
  rw [hv] at z
  cases z
  exact ⟨y1, rv⟩
theorem its_ok {x : Str} {ρ2 : Ly} {st2 : St} {H2 : Hp} : Turns L (Its x) ρ2 st2 H2 ((tl x).map fun c => D.str [c]) := by
  intro H3 _
  refine ⟨fun i hi => by simpa [tl, Its] using hi, fun i d hd => ?_⟩
  rw [List.getElem?_map] at hd
  obtain ⟨c, hc, rfl⟩ := Option.map_eq_some_iff.mp hd
  refine ⟨?_, fun v H3 y => ?_⟩
  · have := (List.getElem?_eq_some_iff.mp hc).1
    simpa [tl, Its] using this
  · obtain ⟨y1, c', hc', rfl⟩ := y
    have ec : c = c' := by
      have h2 : (tl x)[i]? = some c' := by simpa [tl] using hc'
      rw [hc] at h2
      exact Option.some.inj h2
    subst ec
    exact ⟨y1, rep_mk _ rfl⟩
theorem rng_at : ∀ (n i : Nat) (lo : Int), (rng lo n)[i]? = if i < n then some (.int (lo + i)) else none
  | 0, i, lo => by simp [rng]
  | n + 1, 0, lo => by simp [rng]
  | n + 1, i + 1, lo => by
    simp only [rng, List.getElem?_cons_succ]
    rw [rng_at n i (lo + 1)]
    by_cases h : i < n
    · rw [if_pos h, if_pos (by omega)]
      congr 2
      omega
    · rw [if_neg h, if_neg (by omega)]
theorem rng_len : ∀ (n : Nat) (lo : Int), (rng lo n).length = n
  | 0, _ => rfl
  | n + 1, lo => by simp [rng, rng_len n (lo + 1)]
theorem itr_ok {lo : Int} {n : Nat} {ρ2 : Ly} {st2 : St} {H2 : Hp} : Turns L (Itr lo n) ρ2 st2 H2 (rng lo n) := by
  intro H3 _
  refine ⟨fun i hi => by rw [rng_len] at hi; exact hi, fun i d hd => ?_⟩
  rw [rng_at] at hd
  split at hd
  · rename_i h
    cases hd
    exact ⟨h, fun v H3 y => ⟨y.1, by rw [y.2]; exact .int _⟩⟩
  · cases hd
/-- a value that is walked -/
theorem wk_run {pins : List (Addr × Obj)} {s : Shared} {σ : Sl} {H : Hp} {ρ : Ly} {st : St} {v : V} {u : Value} {d : D} {w : Wk} {R : It → Hp → Prop} (hK : X.K = L.K) (I : L2.Inv X pins σ H s) (ru : RelV v u) (Rl : Rel L ρ st H) (r : Rep L ρ st H v d) (e : wkOf d st = some w)
    (q : fI L R w ρ st H) : wpAny (model X.prog X.w) X.A (pyIter u) (PIE X pins σ tg R) X.xe s := by
  have lst : ∀ {a : Addr} {xs : List V}, v = .ref a → SqL X.K H a xs → R (Itl X.K a) H → wpAny (model X.prog X.w) X.A (pyIter u) (PIE X pins σ tg R) X.xe s := fun {a xs} ev h q => by
    subst ev
    cases ru
    obtain ⟨its, rv, pl, _⟩ := I.list h
    exact wpAny_pyIter_list pl.isList (pi_one (tk := s.toks) I _ (turn_list a _) ⟨_, Heap.get?_push_size _ rfl, rfl, rfl⟩ q)
  cases r with
  | str x =>
    simp only [wkOf] at e
    split at e
    · cases e
      obtain ⟨t, rfl⟩ := ru
      have q' : R (Its x) H := q _ fun ρ2 st2 H2 e R => its_ok
      cases ha : x.cps.all (· < 128)
      · exact wpAny_pyIter_wide ha (pi_one (tk := s.toks) I _ (turn_str _ x t "str_iterator" (.inr rfl)) ⟨_, Heap.get?_push_size _ rfl, rfl, rfl⟩ q')
      · exact wpAny_pyIter_ascii ha (pi_one (tk := s.toks) I _ (turn_str _ x t "str_ascii_iterator" (.inl rfl)) ⟨_, Heap.get?_push_size _ rfl, rfl, rfl⟩ q')
    · cases e
  | @tup a xs l h1 h2 =>
    simp only [wkOf, Option.some.injEq] at e
    subst e
    cases ru
    have h : SqT X.K H a xs := by rw [hK]; exact h1.sq
    obtain ⟨its, rv, pt, _⟩ := I.tuple h
    refine wpAny_pyIter_tuple (show s.heap.IsTuple a its.toArray from pt) (pi_one (tk := s.toks) I _ (turn_tuple a _) ⟨_, Heap.get?_push_size _ rfl, rfl, rfl⟩ (q _ fun ρ2 st2 H2 e R => ?_))
    exact itt_ok (by rw [hK]; exact (e.tup h1).sq) (Reps.ext e _ _ h2)
  | @lst a xs l h1 h2 =>
    simp only [wkOf, Option.some.injEq] at e
    subst e
    refine lst rfl (by rw [hK]; exact h1.sq) (q _ fun ρ2 st2 H2 e R => ?_)
    exact itl_ok (by rw [hK]; exact (e.lst h1).sq) (Reps.ext e _ _ h2)
  | @ref a n h1 =>
    simp only [wkOf] at e
    cases hs : st[n]? with
    | none => rw [hs] at e; cases e
    | some ob =>
      rw [hs] at e
      have z := Rl.ob n a ob h1 hs
      cases ob with
      | ml l =>
        cases e
        obtain ⟨xs, z1, z2⟩ := z
        refine lst rfl (SqL.of z1) (q _ fun ρ2 st2 H2 e R l2 hl2 => ?_)
        obtain ⟨xs2, y1, y2⟩ := R.ob n a _ (e.pre _ _ h1) hl2
        exact itl_ok (SqL.of y1) y2
      | fz l =>
        cases e
        obtain ⟨xs, z1, z2⟩ := z
        have i : Imm ρ st a := ⟨fun h => (Rl.outs a h).2 n h1, fun m hm => by
          have em := nodup_at Rl.nd hm h1
          subst em
          exact ⟨.fz l, hs, trivial⟩⟩
        refine lst rfl (SqL.of z1) (q _ fun ρ2 st2 H2 e R => ?_)
        have k := e.keep a _ z1 i
        exact itl_ok (SqL.of k.1) (Reps.ext e _ _ z2)
      | md t kvs => cases e
      | mdl t kvs => cases e
      | ins c fs => cases e
  | _ => simp [wkOf] at e
theorem di_val (hK : X.K = L.K) (ha : PE X a (wE L W f)) : PI X tg a (wI L W (iVal f)) := by
  refine ⟨fun pins s σ H R I h => ?_⟩
  obtain ⟨ρ, st, env, Rl, N, q⟩ := h
  refine thn (ha.run pins s σ H _ I (wE_bind Rl N q)) fun v s1 ⟨x, H1, I1, r1, ρ1, st1, d1, e1, R1, N1, rp, q1⟩ => ?_
  cases ew : wkOf d1 st1 with
  | none => rw [ew] at q1; exact q1.elim
  | some w =>
    rw [ew] at q1
    exact wk_run hK I1 r1 R1 rp ew (q1.here R1)
/-- one argument, two arguments -/
theorem wA_one {α : Type} {F : Fn α} {k : D → St → RR α} {ρ : Ly} {st : St} {H : Hp} {σ : Sl} {env : Env} (R : Rel L ρ st H) (N : REnv L ρ st H σ env) (h : PostR L W σ F ρ st H ((f env st).bind k)) :
    wA L W (aCons f aNil) σ H fun vs H1 => ∃ ρ1 st1 x v, vs = [v] ∧ Ext ρ st H ρ1 st1 H1 ∧ Rel L ρ1 st1 H1 ∧ Rep L ρ1 st1 H1 v x ∧ PostR L W σ F ρ1 st1 H1 (k x st1) := by
  refine ⟨ρ, st, env, R, N, ?_⟩
  have z := PostR.bind h
  unfold aCons
  cases eg : f env st with
  | ok d st2 =>
    rw [eg] at z
    intro ρ' H' x' R' vs rs
    obtain ⟨e2, R2, q2⟩ := z ρ' H' x' R'
    obtain ⟨y, rfl, r2⟩ := reps1 rs
    exact ⟨ρ', st2, d, y, rfl, e2, R2, r2, q2⟩
  | exn c st2 => rw [eg] at z; exact z
  | stuck => rw [eg] at z; exact z
theorem wA_two {α : Type} {F : Fn α} {k : D → D → St → RR α} {ρ : Ly} {st : St} {H : Hp} {σ : Sl} {env : Env} (R : Rel L ρ st H) (N : REnv L ρ st H σ env) (h : PostR L W σ F ρ st H ((f env st).bind fun x st => (g env st).bind fun y st => k x y st)) :
    wA L W (aCons f (aCons g aNil)) σ H fun vs H1 => ∃ ρ1 st1 x y v w, vs = [v, w] ∧ Ext ρ st H ρ1 st1 H1 ∧ Rel L ρ1 st1 H1 ∧ Rep L ρ1 st1 H1 v x ∧ Rep L ρ1 st1 H1 w y ∧ PostR L W σ F ρ1 st1 H1 (k x y st1) := by
  refine ⟨ρ, st, env, R, N, ?_⟩
  unfold aCons
  cases eg : f env st with
  | ok d st2 =>
    rw [eg] at h
    cases eh : g env st2 with
    | ok d2 st3 =>
      simp only [RR.bind, eh, aNil] at h ⊢
      intro ρ' H' x' R' vs rs
      obtain ⟨y, w, rfl, r1, r2⟩ := reps2 rs
      exact ⟨ρ', st3, d, d2, y, w, rfl, x', R', r1, r2, PostR.ext h x'⟩
    | exn c st3 => simp only [RR.bind, eh] at h ⊢; exact h
    | stuck => simp only [RR.bind, eh] at h ⊢; exact h
  | exn c st2 => rw [eg] at h; exact h
  | stuck => rw [eg] at h; exact h
theorem wA.use {fa : AM} {σ : Sl} {H : Hp} {Q Q' : List V → Hp → Prop} (h : wA L W fa σ H Q) (i : ∀ v H, Q v H → Q' v H) : wA L W fa σ H Q' := wA.mono i h
theorem di_rng1 (hm : X.mg "range" = none) (ha : PE X a (wE L W f)) (hg : Gl X "range" := by rfl) (hs : starEach [a] X.env = [(false, eval a X.env)] := by rfl) : PI X tg (.Call (.Name "range" p) [a] [] pos) (wI L W (iRng1 f)) := by
  refine ⟨fun pins s σ H R I h => (pi_range1 hg hm (da_cons ha da_nil hs) hs).run pins s σ H R I ?_⟩
  obtain ⟨ρ, st, env, Rl, N, q⟩ := h
  refine (wA_one Rl N q).use ?_
  rintro _ H1 ⟨ρ1, st1, d, v, rfl, e1, R1, r1, q1⟩
  cases r1 with
  | int j =>
    simp only at q1
    split at q1
    · rename_i hj
      exact ⟨j, rfl, hj.1, hj.2, q1.here R1 _ fun ρ2 st2 H2 e R => itr_ok⟩
    · exact q1.elim
  | _ => exact q1.elim
theorem di_rng2 (hm : X.mg "range" = none) (ha : PE X a (wE L W f)) (hb : PE X b (wE L W g)) (hg : Gl X "range" := by rfl) (hs : starEach [a, b] X.env = [(false, eval a X.env), (false, eval b X.env)] := by rfl) (hs2 : starEach [b] X.env = [(false, eval b X.env)] := by rfl) :
    PI X tg (.Call (.Name "range" p) [a, b] [] pos) (wI L W (iRng2 f g)) := by
  refine ⟨fun pins s σ H R I h => (pi_range2 hg hm (da_cons ha (da_cons hb da_nil hs2) (by rw [hs, hs2])) hs hs2).run pins s σ H R I ?_⟩
  obtain ⟨ρ, st, env, Rl, N, q⟩ := h
  refine (wA_two Rl N q).use ?_
  rintro _ H1 ⟨ρ1, st1, d, d2, v, w, rfl, e1, R1, r1, r2, q1⟩
  cases r1 with
  | int i =>
    cases r2 with
    | int j =>
      simp only at q1
      split at q1
      · rename_i hj
        exact ⟨i, j, rfl, hj, q1.here R1 _ fun ρ2 st2 H2 e R => itr_ok⟩
      · exact q1.elim
    | _ => exact q1.elim
  | _ => exact q1.elim

/-! ### targets -/
def setV : List Nat → List V → Sl → Sl
  | i :: is, v :: vs, σ => setV is vs (σ.set i (some v))
  | _, _, σ => σ
def gT (L : Lk) (t : Tg) : TG := fun v σ H Q => ∃ ρ st d, Rel L ρ st H ∧ Rep L ρ st H v d ∧ (match t with
  | .name i => Q (σ.set i (some v)) H
  | .tup is => ∃ ds xs a, v = .ref a ∧ (TupAt L ρ st H a xs ∨ SqL L.K H a xs) ∧ Reps L ρ st H xs ds ∧ xs.length = is.length ∧ Q (setV is xs σ) H)
def gNs : List Nat → TGs
  | [] => gNil
  | i :: is => gCons (gName i) (gNs is)
theorem gNs_of : ∀ {is : List Nat} {xs : List V} {σ : Sl} {H : Hp} {Q : Sl → Hp → Prop}, xs.length = is.length → Q (setV is xs σ) H → gNs is xs σ H Q
  | [], [], _, _, _, _, q => ⟨rfl, q⟩
  | [], _ :: _, _, _, _, h, _ => by simp at h
  | _ :: _, [], _, _, _, h, _ => by simp at h
  | i :: is, v :: vs, σ, H, Q, h, q => ⟨v, vs, rfl, gNs_of (by simpa using h) q⟩
theorem PG.imp {e : Expr} {t t' : TG} (h : PG X e t) (i : ∀ v σ H Q, t' v σ H Q → t v σ H Q) : PG X e t' := ⟨fun pins s σ H v u Q I r q => h.run pins s σ H v u Q I r (i v σ H Q q)⟩
theorem PG.or {e : Expr} {t t' : TG} (h : PG X e t) (h' : PG X e t') : PG X e (fun v σ H Q => t v σ H Q ∨ t' v σ H Q) := ⟨fun pins s σ H v u Q I r q => q.elim (h.run pins s σ H v u Q I r) (h'.run pins s σ H v u Q I r)⟩
theorem dg_name {i : Nat} {x : Str} (hN : X.N.Nodup) (hi : X.N[i]? = some x := by rfl) (hx : Loc X.env.scope x := by first | exact Or.inl rfl | exact Or.inr rfl) (hf : X.fn x = true ∨ X.env.scope.names.lookup x = some .local := by first | exact .inl rfl | exact .inr rfl) : PG X (.Name x pos) (gT L (.name i)) := by
  refine PG.imp (pg_name hN hi hx hf) ?_
  rintro v σ H Q ⟨ρ, st, d, R, r, q⟩
  exact q
theorem dg_tup {k : Nat} {is : List Nat} (hK : X.K = L.K) (hc : X.calm = true) (h : PGs X es (gNs is)) (hn : (assignEach es X.env).length = is.length := by rfl) (hst : (assignEach es X.env).findIdx? (·.1) = none := by rfl) : PG X (.Tuple es k pos) (gT L (.tup is)) := by
  refine PG.imp (PG.or (pg_tup hc h hn hst) (pg_lst hc h hn hst)) ?_
  rintro v σ H Q ⟨ρ, st, d, R, r, ds, xs, a, rfl, h1 | h1, h2, h3, q⟩
  · exact .inl ⟨a, xs, rfl, by rw [hK]; exact h1.sq, h3, gNs_of h3 q⟩
  · exact .inr ⟨a, xs, rfl, by rw [hK]; exact h1, h3, gNs_of h3 q⟩
theorem REnv.setAll {ρ : Ly} {st : St} {H : Hp} : ∀ {is : List Nat} {xs : List V} {ds : List D} {σ : Sl} {env : Env}, REnv L ρ st H σ env → Reps L ρ st H xs ds → REnv L ρ st H (setV is xs σ) (setAll is ds env)
  | [], _, _, _, _, N, _ => by simpa [setV, TH.setAll] using N
  | _ :: _, [], _, _, _, N, r => by cases r; simpa [setV, TH.setAll] using N
  | i :: is, v :: vs, _, σ, env, N, .cons h t => by
    simp only [setV, TH.setAll]
    exact REnv.setAll (N.set h i) t
theorem wipe_set {i : Nat} {x : Option V} : ∀ {vs : List Nat} {σ : Sl}, L2.wipe (σ.set i x) vs = if i ∈ vs then L2.wipe σ vs else (L2.wipe σ vs).set i x
  | [], σ => by simp [L2.wipe]
  | v :: vs, σ => by
    unfold L2.wipe
    rw [wipe_set (vs := vs)]
    by_cases hi : i ∈ vs
    · rw [if_pos hi, if_pos (List.mem_cons_of_mem _ hi)]
    · rw [if_neg hi]
      by_cases e : i = v
      · subst e
        rw [if_pos List.mem_cons_self, List.set_set]
      · rw [if_neg (by simp [e, hi]), List.set_comm _ _ e]
theorem wipe_setV {vs : List Nat} : ∀ {is : List Nat} {xs : List V} {σ : Sl}, (∀ i ∈ is, i ∈ vs) → L2.wipe (setV is xs σ) vs = L2.wipe σ vs
  | [], _, _, _ => by simp [setV]
  | _ :: _, [], _, _ => by simp [setV]
  | i :: is, v :: xs, σ, h => by
    simp only [setV]
    rw [wipe_setV fun j hj => h j (List.mem_cons_of_mem _ hj), wipe_set, if_pos (h i List.mem_cons_self)]
/-- a target that takes its datum -/
theorem gT_of {t : Tg} {v : V} {d : D} {σ : Sl} {env env' : Env} {ρ : Ly} {st : St} {H : Hp} {Q : Sl → Hp → Prop} (R : Rel L ρ st H) (r : Rep L ρ st H v d) (N : REnv L ρ st H σ env) (e : t.put d env st = some env')
    (q : ∀ σ', REnv L ρ st H σ' env' → (∀ vs : List Nat, (∀ i ∈ t.slots, i ∈ vs) → L2.wipe σ' vs = L2.wipe σ vs) → Q σ' H) : gT L t v σ H Q := by
  refine ⟨ρ, st, d, R, r, ?_⟩
  cases t with
  | name i =>
    simp only [Tg.put, Option.some.injEq] at e
    subst e
    exact q _ (N.set r i) fun vs h => by rw [wipe_set, if_pos (h i (by simp [Tg.slots]))]
  | tup is =>
    simp only [Tg.put] at e
    split at e
    · split at e
      · rename_i ds hl
        cases e
        obtain ⟨a, xs, rfl, h1, h2⟩ := rep_tup r
        exact ⟨ds, xs, a, rfl, .inl h1, h2, h2.length.trans hl, q _ (N.setAll h2) fun vs h => wipe_setV h⟩
      · cases e
    · split at e
      · rename_i ds hds
        split at e
        · rename_i hl
          cases e
          obtain ⟨a, xs, rfl, h1, h2, _⟩ := asL_rep R r hds
          exact ⟨ds, xs, a, rfl, .inr h1, h2, h2.length.trans hl, q _ (N.setAll h2) fun vs h => wipe_setV h⟩
        · cases e
      · cases e

/-! ### comprehensions -/
abbrev W0 : WX := fun _ _ _ _ => False
def wTs (L : Lk) : Option EM → TT
  | none => tYes
  | some c => wT L W0 c
theorem REnv.more {ρ : Ly} {st : St} {H : Hp} {σ : Sl} {env : Env} {p : Addr} {o : HO} (N : REnv L ρ st H σ env) (hp : H p = none) : REnv L (ρ.more p) st (upd H p o) σ env :=
  ⟨N.len, fun i d h => let ⟨v, h1, h2⟩ := N.at_ i d h; ⟨v, h1, Rep.more hp _ _ h2⟩⟩
theorem ext_through {ρd ρ3 : Ly} {st2 st3 : St} {Hd H4 : Hp} {D : Addr} {o : HO} (R : Rel L ρd st2 Hd) (hD : Hd D = none) (e : Ext (ρd.more D) st2 (upd Hd D o) ρ3 st3 H4) : Ext ρd st2 Hd (ρ3.less ρd.out) st3 (less H4 D) := by
  refine ⟨fun n a h => e.pre n a h, fun a o' h i => ?_, rfl, fun a h => ?_⟩
  · have hne := ne_of_none h hD
    obtain ⟨k1, k2⟩ := e.keep a o' (by rw [upd_ne hne]; exact h) (imm_more hne i)
    exact ⟨by rw [less_ne hne]; exact k1, (imm_less (e.out : ρ3.out = D :: ρd.out) k2).2⟩
  · have hne := R.neout hD h
    rw [less_ne hne, e.outk a (List.mem_cons_of_mem _ h), upd_ne hne]
theorem upd_less {H : Hp} {p : Addr} {o : HO} : upd (less H p) p o = upd H p o := by
  funext b
  by_cases h : b = p
  · subst h; rw [upd_same, upd_same]
  · rw [upd_ne h, upd_ne h, less_ne h]
/-- between two turns: the new list at D, all else beside -/
def CInv (L : Lk) (W : WX) (σ : Sl) (Q : VK) (ρ1 : Ly) (st1 : St) (H1 : Hp) (D : Addr) (K2 : List TH.D → St → RA) (Hc : Hp) : Prop :=
  ∃ ρd st2 Hd xs acc, Hc = upd Hd D (.lst xs) ∧ Hd D = none ∧ Rel L ρd st2 Hd ∧ Ext ρ1 st1 H1 ρd st2 Hd ∧ Reps L ρd st2 Hd xs acc ∧ PostR L W σ (fL L Q) ρd st2 Hd (K2 acc st2)
theorem noX_bind {α β : Type} {F : Fn β} {r : RR α} {k : α → St → RR β} {σ : Sl} {ρ : Ly} {st : St} {H : Hp} (h : PostR L W σ F ρ st H ((noX r).bind k)) :
    ∃ a st', r = .ok a st' ∧ PostR L W σ F ρ st H (k a st') := by
  cases r with
  | ok a st' => exact ⟨a, st', rfl, h⟩
  | exn c st' => exact h.elim
  | stuck => exact h.elim
theorem comp_turn {t : Tg} {c : Option EM} {el : EM} {K2 : List D → St → RA} {σ : Sl} {Q : VK} {ρ1 ρd : Ly} {st1 st2 : St} {H1 Hd : Hp} {D : Addr} {xs : List V} {acc : List TH.D} {env0 : Env} {vs : List Nat} {x : V} {d : TH.D}
    (hs : ∀ i ∈ t.slots, i ∈ vs) (hD : Hd D = none) (R : Rel L ρd st2 Hd) (e : Ext ρ1 st1 H1 ρd st2 Hd) (r : Reps L ρd st2 Hd xs acc) (N : REnv L ρd st2 Hd (L2.wipe σ vs) env0) (rx : Rep L ρd st2 Hd x d)
    (q : PostR L W σ (fL L Q) ρd st2 Hd ((cTurn t c el env0 d st2).bind fun y st => match y with | some y => if acc.length < LN then K2 (acc ++ [y]) st else .stuck | none => K2 acc st)) :
    gT L t x (L2.wipe σ vs) (upd Hd D (.lst xs)) fun σ2 H2 => L2.wipe σ2 vs = L2.wipe σ vs ∧ wTs L c σ2 H2 fun b H3 =>
      if b = true then wE L W0 el σ2 H3 fun y H4 => ∃ acc, H4 D = some (.lst acc) ∧ acc.length < sizeLine ∧ CInv L W σ Q ρ1 st1 H1 D K2 (upd H4 D (.lst (acc ++ [y]))) else CInv L W σ Q ρ1 st1 H1 D K2 H3 := by
  unfold cTurn at q
  cases et : t.put d env0 st2 with
  | none => rw [et] at q; exact q.elim
  | some env1 =>
    rw [et] at q
    refine gT_of (R.more hD) (Rep.more hD _ _ rx) (N.more hD) et fun σ2 N2 hw => ⟨?_, ?_⟩
    · rw [hw vs hs]
      have idem : ∀ (us : List Nat) (τ : Sl), (∀ v ∈ us, v ∈ vs) → L2.wipe (L2.wipe τ us) vs = L2.wipe τ vs := by
        intro us
        induction us with
        | nil => intro τ _; rfl
        | cons u us ih =>
          intro τ h
          show L2.wipe ((L2.wipe τ us).set u none) vs = _
          rw [wipe_set, if_pos (h u List.mem_cons_self)]
          exact ih τ fun v hv => h v (List.mem_cons_of_mem _ hv)
      exact idem vs σ fun _ h => h
    -- the element, from any state behind the test
    have elt : ∀ (ρ3 : Ly) (st3 : St) (H3 : Hp), Ext (ρd.more D) st2 (upd Hd D (.lst xs)) ρ3 st3 H3 → Rel L ρ3 st3 H3 → PostR L W σ (fL L Q) ρd st2 Hd ((((noX (el env1 st3)).bind fun y st => (.ok (some y) st : RR (Option TH.D)))).bind fun y st => match y with | some y => if acc.length < LN then K2 (acc ++ [y]) st else .stuck | none => K2 acc st) →
        wE L W0 el σ2 H3 fun y H4 => ∃ acc, H4 D = some (.lst acc) ∧ acc.length < sizeLine ∧ CInv L W σ Q ρ1 st1 H1 D K2 (upd H4 D (.lst (acc ++ [y]))) := fun ρ3 st3 H3 e3 R3 q3 => by
      refine ⟨ρ3, st3, env1, R3, N2.ext e3, ?_⟩
      cases ee : el env1 st3 with
      | exn c st' => rw [ee] at q3; exact q3.elim
      | stuck => rw [ee] at q3; exact q3.elim
      | ok y st4 =>
        rw [ee] at q3
        intro ρ4 H4 e4 R4 v rv
        have e34 := e3.trans e4
        have ho : ρ4.out = D :: ρd.out := e34.out
        have x4 := ext_through R hD e34
        have hHD : H4 D = some (.lst xs) := by rw [e34.outk D List.mem_cons_self, upd_same]
        have q4 : PostR L W σ (fL L Q) ρd st2 Hd (if acc.length < LN then K2 (acc ++ [y]) st4 else .stuck) := q3
        by_cases hl : acc.length < LN
        · rw [if_pos hl] at q4
          refine ⟨xs, hHD, by rw [r.length, ← LN_eq]; exact hl, ρ4.less ρd.out, st4, less H4 D, xs ++ [v], acc ++ [y], upd_less.symm, less_same, R4.less ho (R.noout hD), e.trans x4, ?_, q4.ext x4⟩
          exact (Reps.ext x4 _ _ r).append (.cons (Rep.less ho _ _ rv) .nil)
        · rw [if_neg hl] at q4
          exact q4.elim
    cases c with
    | none =>
      simp only [wTs, tYes, if_true]
      exact elt _ _ _ Ext.refl (R.more hD) q
    | some c =>
      refine ⟨ρd.more D, st2, env1, R.more hD, N2, ?_⟩
      simp only at q
      cases ec : c env1 st2 with
      | exn c st' => rw [ec] at q; exact q.elim
      | stuck => rw [ec] at q; exact q.elim
      | ok z st3 =>
        rw [ec] at q
        intro ρ3 H3 e3 R3
        have q : PostR L W σ (fL L Q) ρd st2 Hd ((match truthy st3 z with
          | some true => (noX (el env1 st3)).bind fun y st => (.ok (some y) st : RR (Option TH.D))
          | some false => .ok none st3
          | none => .stuck).bind fun y st => match y with | some y => if acc.length < LN then K2 (acc ++ [y]) st else .stuck | none => K2 acc st) := q
        cases ek : truthy st3 z with
        | none => rw [ek] at q; exact q.elim
        | some k =>
          rw [ek] at q
          refine ⟨k, ek, ?_⟩
          cases k with
          | true =>
            rw [if_pos rfl]
            exact elt ρ3 st3 H3 e3 R3 q
          | false =>
            rw [if_neg Bool.false_ne_true]
            have ho : ρ3.out = D :: ρd.out := e3.out
            have x4 := ext_through R hD e3
            have hHD : H3 D = some (.lst xs) := by rw [e3.outk D List.mem_cons_self, upd_same]
            refine ⟨ρ3.less ρd.out, st3, less H3 D, xs, acc, (less_upd hHD).symm, less_same, R3.less ho (R.noout hD), e.trans x4, Reps.ext x4 _ _ r, PostR.ext q x4⟩
theorem comp_tLc {it : IM} {t : Tg} {c : Option EM} {el : EM} {vs : List Nat} (hsl : ∀ i ∈ t.slots, i ∈ vs) {σ : Sl} {H : Hp} {Q : VK} (q : wL L W (lComp it t c el vs) σ H Q) : tLc (wI L W it) (gT L t) (wTs L c) (wE L W0 el) vs σ H Q := by
  obtain ⟨ρ, st, env, R, N, q⟩ := q
  refine ⟨ρ, st, env, R, N, PostR.mono ?_ (PostR.bind q)⟩
  rintro w ρ1 st1 H1 e0 _ ⟨e1, R1, q1⟩ J hJ D hD
  have N1 := (N.ext e1).wipe vs
  cases w with
  | data l =>
    refine ⟨fun i m Hc => i ≤ l.length ∧ m = l.length - i ∧ CInv L W σ Q ρ1 st1 H1 D (fun acc st => cData t c el (TH.wipe env vs) (l.drop i) acc st) Hc, ⟨_, Nat.zero_le _, rfl, ρ1, st1, H1, [], [], rfl, hD, R1, Ext.refl, .nil, q1⟩, ?_⟩
    rintro i m Hc ⟨hi, rfl, ρd, st2, Hd, xs, acc, rfl, hDd, Rd, ed, rd, qd⟩
    have T := hJ ρd st2 Hd ed Rd _ (fun b o h => by rw [upd_ne (ne_of_none h hDd)]; exact h : Same Hd (upd Hd D (.lst xs)))
    by_cases hlt : i < l.length
    · refine .inr ⟨(T.2 i _ (List.getElem?_eq_getElem hlt)).1, CInv L W σ Q ρ1 st1 H1 D (fun acc st => cData t c el (TH.wipe env vs) (l.drop (i + 1)) acc st), fun H' h' => ⟨_, by omega, hlt, rfl, h'⟩, fun x H' y => ?_⟩
      obtain ⟨rfl, rx⟩ := (T.2 i _ (List.getElem?_eq_getElem hlt)).2 x H' y
      rw [List.drop_eq_getElem_cons hlt] at qd
      exact comp_turn hsl hDd Rd ed rd (N1.ext ed) rx qd
    · have ei : i = l.length := by omega
      subst ei
      rw [List.drop_length] at qd
      exact .inl ⟨T.1 _ (Nat.le_refl _), qd.here Rd _ _ rd hDd⟩
  | obj n =>
    refine ⟨fun i m Hc => CInv L W σ Q ρ1 st1 H1 D (fun acc st => cObj t c el (TH.wipe env vs) n m i acc st) Hc, ⟨FU, ρ1, st1, H1, [], [], rfl, hD, R1, Ext.refl, .nil, q1⟩, ?_⟩
    rintro i m Hc ⟨ρd, st2, Hd, xs, acc, rfl, hDd, Rd, ed, rd, qd⟩
    cases m with
    | zero => exact qd.elim
    | succ m =>
      simp only [cObj] at qd
      cases hn : st2[n]? with
      | none => rw [hn] at qd; exact qd.elim
      | some ob =>
        rw [hn] at qd
        cases ob with
        | ml l =>
          have T := hJ ρd st2 Hd ed Rd l hn _ (fun b o h => by rw [upd_ne (ne_of_none h hDd)]; exact h : Same Hd (upd Hd D (.lst xs)))
          simp only at qd
          cases hl : l[i]? with
          | none =>
            rw [hl] at qd
            exact .inl ⟨T.1 _ (List.getElem?_eq_none_iff.mp hl), qd.here Rd _ _ rd hDd⟩
          | some d =>
            rw [hl] at qd
            refine .inr ⟨(T.2 i _ hl).1, CInv L W σ Q ρ1 st1 H1 D (fun acc st => cObj t c el (TH.wipe env vs) n m (i + 1) acc st), fun H' h' => ⟨m, Nat.lt_succ_self _, h'⟩, fun x H' y => ?_⟩
            obtain ⟨rfl, rx⟩ := (T.2 i _ hl).2 x H' y
            exact comp_turn hsl hDd Rd ed rd (N1.ext ed) rx qd
        | _ => exact qd.elim
theorem dl_comp {elt iter : Expr} {ifs : List Expr} {scope : Scope} {own : List (Str × Nat)} {it : IM} {t : Tg} {c : Option EM} {el : EM} {vs : List Nat} (hc : X.calm = true) (hN : X.N.Nodup) (ok : BlkOk X.N X.env.scope scope own) (hi : PI X tg iter (wI L W it))
    (hg : ∀ (s : Shared) (H : Hp) (C : Addr) (cl : List (Str × Addr)) (fp : List Addr), PG (X.blk s H scope (compEnvC scope cl C X.env) fp) tg (gT L t))
    (ht : ∀ (s : Shared) (H : Hp) (C : Addr) (cl : List (Str × Addr)) (fp : List Addr), PTs (X.blk s H scope (compEnvC scope cl C X.env) fp) ifs (wTs L c))
    (he : ∀ (s : Shared) (H : Hp) (C : Addr) (cl : List (Str × Addr)) (fp : List Addr), PE (X.blk s H scope (compEnvC scope cl C X.env) fp) elt (wE L W0 el))
    (ev : own.map (·.2) = vs := by rfl) (hsl : ∀ i ∈ t.slots, i ∈ vs := by decide) (hs : ∀ x, foldedSetIterable iter X.env x = pure x := by intro _; rfl) :
    PE X (.ListComp elt [⟨tg, iter, ifs, 0⟩] scope pos) (wL L W (lComp it t c el vs)) := by
  subst ev
  exact PE.imp (pe_lc hc hN hi ok hg ht he hs) fun σ H Q q => comp_tLc hsl q
theorem dts_nil : PTs X [] (wTs L none) := pts_nil
theorem dts_one {c : Expr} {h : EM} (hc : PT X c (wT L W0 h)) : PTs X [c] (wTs L (some h)) := pts_one hc
end
end TH
end
section
set_option Elab.async false
set_option linter.all false
set_option autoImplicit false
set_option maxRecDepth 100000
/-! TH6: statements. -/
namespace TH
open PySem L2 TL

def PostS (L : Lk) (W : WX) (D : Ends) (ρ : Ly) (st : St) (H : Hp) : RS → Prop
  | .nx env st' => ∀ (ρ' : Ly) (H' : Hp) (σ' : Sl), Ext ρ st H ρ' st' H' → Rel L ρ' st' H' → REnv L ρ' st' H' σ' env → D.nx σ' H'
  | .ret d st' => ∀ (ρ' : Ly) (H' : Hp) (v : V), Ext ρ st H ρ' st' H' → Rel L ρ' st' H' → Rep L ρ' st' H' v d → D.rt v H'
  | .brk env st' => ∀ (ρ' : Ly) (H' : Hp) (σ' : Sl), Ext ρ st H ρ' st' H' → Rel L ρ' st' H' → REnv L ρ' st' H' σ' env → D.bk σ' H'
  | .exn c env st' => ∀ (ρ' : Ly) (H' : Hp) (σ' : Sl), Ext ρ st H ρ' st' H' → Rel L ρ' st' H' → REnv L ρ' st' H' σ' env → W (.ref (L.ca c)) none σ' H'
  | .stuck => False
def wS (L : Lk) (W : WX) (s : SM) : TS := fun D σ H => ∃ ρ st env, Rel L ρ st H ∧ REnv L ρ st H σ env ∧ PostS L W D ρ st H (s env st)
section
variable {L : Lk} {W : WX} {D : Ends} {ρ ρ1 : Ly} {st st1 : St} {H H1 : Hp} {σ : Sl} {env : Env}
theorem PostS.ext {r : RS} (h : PostS L W D ρ st H r) (e : Ext ρ st H ρ1 st1 H1) : PostS L W D ρ1 st1 H1 r := by
  cases r with
  | nx env st' => exact fun ρ' H' σ' e2 => h ρ' H' σ' (e.trans e2)
  | ret d st' => exact fun ρ' H' v e2 => h ρ' H' v (e.trans e2)
  | brk env st' => exact fun ρ' H' σ' e2 => h ρ' H' σ' (e.trans e2)
  | exn c env st' => exact fun ρ' H' σ' e2 => h ρ' H' σ' (e.trans e2)
  | stuck => exact h
/-- an expression of a statement -/
theorem PostS.bindS {α : Type} {r : RR α} {k : α → St → RS} (h : PostS L W D ρ st H (r.bindS env k)) (N : REnv L ρ st H σ env) :
    PostR L W σ (fun a ρ1 st1 H1 => Ext ρ st H ρ1 st1 H1 ∧ Rel L ρ1 st1 H1 ∧ REnv L ρ1 st1 H1 σ env ∧ PostS L W D ρ1 st1 H1 (k a st1)) ρ st H r := by
  cases r with
  | ok a st' => exact fun ρ' H' e R => ⟨e, R, N.ext e, PostS.ext h e⟩
  | exn c st' => exact fun ρ' H' e R => h ρ' H' σ e R (N.ext e)
  | stuck => exact h
theorem wE_bindS {f : EM} {k : TH.D → St → RS} (R : Rel L ρ st H) (N : REnv L ρ st H σ env) (h : PostS L W D ρ st H ((f env st).bindS env k)) :
    wE L W f σ H fun v H1 => ∃ ρ1 st1 d, Ext ρ st H ρ1 st1 H1 ∧ Rel L ρ1 st1 H1 ∧ REnv L ρ1 st1 H1 σ env ∧ Rep L ρ1 st1 H1 v d ∧ PostS L W D ρ1 st1 H1 (k d st1) :=
  ⟨ρ, st, env, R, N, PostR.mono (fun a ρ' st' H' _ _ q v r => ⟨ρ', st', a, q.1, q.2.1, q.2.2.1, r, q.2.2.2⟩) (PostS.bindS h N)⟩
theorem wT_bindS {f : EM} {k : Option Bool → St → RS} (hk : ∀ st, k none st = .stuck) (R : Rel L ρ st H) (N : REnv L ρ st H σ env) (h : PostS L W D ρ st H ((f env st).bindS env fun x st => k (truthy st x) st)) :
    wT L W f σ H fun b H1 => ∃ ρ1 st1, Ext ρ st H ρ1 st1 H1 ∧ Rel L ρ1 st1 H1 ∧ REnv L ρ1 st1 H1 σ env ∧ PostS L W D ρ1 st1 H1 (k (some b) st1) := by
  refine ⟨ρ, st, env, R, N, PostR.mono ?_ (PostS.bindS h N)⟩
  rintro d ρ' st' H' _ _ ⟨e, R', N', q⟩
  cases ek : truthy st' d with
  | none => rw [ek, hk] at q; exact q.elim
  | some b =>
    rw [ek] at q
    exact ⟨b, ek, ρ', st', e, R', N', q⟩
end
section
variable {X : Cx} {L : Lk} {W : WX} {e c : Expr} {f g h : EM} {s1 s2 s3 : SM} {stm : Stmt} {rest : List Stmt} {pos : Pos}
theorem ds_nil : PSs X [] (wS L W sSkip) := by
  refine PSs.imp pss_nil ?_
  rintro D σ H ⟨ρ, st, env, R, N, q⟩
  exact q ρ H σ Ext.refl R N
theorem PostS.seq {D : Ends} {ρ : Ly} {st : St} {H : Hp} {r : RS} {k : Env → St → RS} (q : PostS L W D ρ st H (r.seq k)) :
    PostS L W { D with nx := fun σ' H' => ∃ ρ' st' env', Rel L ρ' st' H' ∧ REnv L ρ' st' H' σ' env' ∧ PostS L W D ρ' st' H' (k env' st') } ρ st H r := by
  cases r with
  | nx env st' => exact fun ρ' H' σ' e R N => ⟨ρ', st', env, R, N, PostS.ext q e⟩
  | ret d st' => exact q
  | brk env st' => exact q
  | exn c env st' => exact q
  | stuck => exact q
theorem ds_cons (h1 : PS X stm (wS L W s1)) (h2 : PSs X rest (wS L W s2)) : PSs X (stm :: rest) (wS L W (sSeq s1 s2)) := by
  refine PSs.imp (pss_cons h1 h2) ?_
  rintro D σ H ⟨ρ, st, env, R, N, q⟩
  exact ⟨ρ, st, env, R, N, PostS.seq q⟩
theorem ds_one (h1 : PS X stm (wS L W s1)) : PSs X [stm] (wS L W s1) := pss_one h1
theorem ds_pass : PS X (.Pass pos) (wS L W sSkip) := by
  refine PS.imp ps_pass ?_
  rintro D σ H ⟨ρ, st, env, R, N, q⟩
  exact q ρ H σ Ext.refl R N
theorem ds_break : PS X (.Break pos) (wS L W sBrk) := by
  refine PS.imp ps_break ?_
  rintro D σ H ⟨ρ, st, env, R, N, q⟩
  exact q ρ H σ Ext.refl R N
theorem ds_expr (he : PE X e (wE L W f)) (hs : swapsWith e none pos.line X.env = pure false := by rfl) : PS X (.Expr e pos) (wS L W (sExpr f)) := by
  refine PS.imp (ps_expr he hs) ?_
  rintro D σ H ⟨ρ, st, env, R, N, q⟩
  refine wE.mono ?_ (wE_bindS R N q)
  rintro v H1 ⟨ρ1, st1, d, e1, R1, N1, r1, q1⟩
  exact q1 ρ1 H1 σ Ext.refl R1 N1
theorem ds_ret (he : PE X e (wE L W f)) : PS X (.Return (some e) pos) (wS L W (sRet f)) := by
  refine PS.imp (ps_ret he) ?_
  rintro D σ H ⟨ρ, st, env, R, N, q⟩
  refine wE.mono ?_ (wE_bindS R N q)
  rintro v H1 ⟨ρ1, st1, d, e1, R1, N1, r1, q1⟩
  exact q1 ρ1 H1 v Ext.refl R1 r1
theorem ds_retN : PS X (.Return none pos) (wS L W sRetN) := by
  refine PS.imp ps_retN ?_
  rintro D σ H ⟨ρ, st, env, R, N, q⟩
  exact q ρ H _ Ext.refl R .non
theorem ds_set {i : Nat} {x : Str} {pos' : Pos} (hN : X.N.Nodup) (he : PE X e (wE L W f)) (hi : X.N[i]? = some x := by rfl) (hx : Loc X.env.scope x := by first | exact Or.inl rfl | exact Or.inr rfl) (hs : swapsWith e (some (.Name x pos')) pos.line X.env = pure false := by rfl)
    (hf : X.fn x = true ∨ X.env.scope.names.lookup x = some .local := by first | exact .inl rfl | exact .inr rfl) : PS X (.Assign [.Name x pos'] e pos) (wS L W (sSet i f)) := by
  refine PS.imp (ps_set hN hi hx he hs hf) ?_
  rintro D σ H ⟨ρ, st, env, R, N, q⟩
  refine wE.mono ?_ (wE_bindS R N q)
  rintro v H1 ⟨ρ1, st1, d, e1, R1, N1, r1, q1⟩
  exact q1 ρ1 H1 _ Ext.refl R1 (N1.set r1 i)
/-- a target that is no plain name -/
theorem ds_tgt {tg : Expr} {t : Tg} (he : PE X e (wE L W f)) (hg : PG X tg (gT L t)) (hs : swapsWithSole [tg] e pos.line X.env = pure false := by rfl) (hw : swappedStores [tg] e X.env = pure none := by rfl)
    (h1 : (assignEach [tg] X.env).map (·.2) = [assign tg X.env] := by rfl) : PS X (.Assign [tg] e pos) (wS L W (sTgt t f)) := by
  refine PS.imp (ps_asg he hg hs hw h1) ?_
  rintro D σ H ⟨ρ, st, env, R, N, q⟩
  refine wE.mono ?_ (wE_bindS R N q)
  rintro v H1 ⟨ρ1, st1, d, e1, R1, N1, r1, q1⟩
  cases et : t.put d env st1 with
  | none => rw [et] at q1; exact q1.elim
  | some env' =>
    rw [et] at q1
    exact gT_of R1 r1 N1 et fun σ' N' _ => q1 ρ1 H1 σ' Ext.refl R1 N'
theorem ds_if {a b : List Stmt} (hc : PT X c (wT L W h)) (ha : PSs X a (wS L W s1)) (hb : PSs X b (wS L W s2)) : PS X (.If c a b pos) (wS L W (sIf h s1 s2)) := by
  refine PS.imp (ps_if hc ha hb) ?_
  rintro D σ H ⟨ρ, st, env, R, N, q⟩
  refine wT.mono ?_ (wT_bindS (k := fun o st => match o with | some true => s1 env st | some false => s2 env st | none => .stuck) (fun _ => rfl) R N q)
  rintro k H1 ⟨ρ1, st1, e1, R1, N1, q1⟩
  cases k with
  | true => exact iteT ⟨ρ1, st1, env, R1, N1, q1⟩
  | false => exact iteF ⟨ρ1, st1, env, R1, N1, q1⟩
/-! ### loops -/
theorem PostS.loop {D : Ends} {nx : Sl → Hp → Prop} {ρ : Ly} {st : St} {H : Hp} {r : RS} {k : Env → St → RS} (q : PostS L W D ρ st H (match r with | .nx e s => k e s | .brk e s => .nx e s | r => r))
    (hn : ∀ ρ' st' H' σ' env', Ext ρ st H ρ' st' H' → Rel L ρ' st' H' → REnv L ρ' st' H' σ' env' → PostS L W D ρ' st' H' (k env' st') → nx σ' H') : PostS L W { D with nx := nx, ct := nx, bk := D.nx } ρ st H r := by
  cases r with
  | nx env st' => exact fun ρ' H' σ' e R N => hn ρ' st' H' σ' env e R N (PostS.ext q e)
  | ret d st' => exact q
  | brk env st' => exact q
  | exn c env st' => exact q
  | stuck => exact q
theorem ds_while {body : List Stmt} (hp : PassesOwn (model X.prog X.w) X.A X.env X.xe) (hc : PT X c (wT L W h)) (hb : PSs X body (wS L W s1)) : PS X (.While c body [] pos) (wS L W (sWhile h s1)) := by
  refine PS.imp (ps_while hp hc hb) ?_
  rintro D σ H ⟨ρ, st, env, R, N, q⟩
  refine ⟨fun m σ' H' => ∃ ρ1 st1 env1, Rel L ρ1 st1 H' ∧ REnv L ρ1 st1 H' σ' env1 ∧ PostS L W D ρ1 st1 H' (wLoop h s1 m env1 st1), ⟨FU, ρ, st, env, R, N, q⟩, ?_⟩
  rintro m σ1 H1 ⟨ρ1, st1, env1, R1, N1, q1⟩
  cases m with
  | zero => exact q1.elim
  | succ m =>
    refine wT.mono ?_ (wT_bindS (k := fun o st => match o with | some true => (match s1 env1 st with | .nx e s => wLoop h s1 m e s | .brk e s => .nx e s | r => r) | some false => .nx env1 st | none => .stuck) (fun _ => rfl) R1 N1 q1)
    rintro k H2 ⟨ρ2, st2, e2, R2, N2, q2⟩
    cases k with
    | false => exact iteF (q2 ρ2 H2 σ1 Ext.refl R2 N2)
    | true =>
      refine iteT ⟨fun σ' H' => ∃ ρ1 st1 env1, Rel L ρ1 st1 H' ∧ REnv L ρ1 st1 H' σ' env1 ∧ PostS L W D ρ1 st1 H' (wLoop h s1 m env1 st1), fun σ' H' h' => ⟨m, Nat.lt_succ_self _, h'⟩, ρ2, st2, env1, R2, N2, ?_⟩
      exact PostS.loop q2 fun ρ' st' H' σ' env' e R N q => ⟨ρ', st', env', R, N, q⟩
theorem ds_for {tg iter : Expr} {body : List Stmt} {it : IM} {t : Tg} (hp : PassesOwn (model X.prog X.w) X.A X.env X.xe) (hc : X.calm = true) (hi : PI X tg iter (wI L W it)) (hg : PG X tg (gT L t)) (hb : PSs X body (wS L W s1))
    (hs : ∀ x, foldedSetIterable iter X.env x = pure x := by intro _; rfl) : PS X (.For tg iter body [] pos) (wS L W (sFor it t s1)) := by
  refine PS.imp (ps_for hp hc hi hg hb hs) ?_
  rintro D σ H ⟨ρ, st, env, R, N, q⟩
  refine ⟨ρ, st, env, R, N, PostR.mono ?_ (PostS.bindS q N)⟩
  rintro w ρ1 st1 H1 _ _ ⟨e1, R1, N1, q1⟩ J hJ
  cases w with
  | data l =>
    refine ⟨fun i m σ' H' => i ≤ l.length ∧ m = l.length - i ∧ ∃ ρ2 st2 env2, Ext ρ1 st1 H1 ρ2 st2 H' ∧ Rel L ρ2 st2 H' ∧ REnv L ρ2 st2 H' σ' env2 ∧ PostS L W D ρ2 st2 H' (fData t s1 (l.drop i) env2 st2), ⟨_, Nat.zero_le _, rfl, ρ1, st1, env, Ext.refl, R1, N1, q1⟩, ?_⟩
    rintro i m σ2 H2 ⟨hi, rfl, ρ2, st2, env2, e2, R2, N2, q2⟩
    have T := hJ ρ2 st2 H2 e2 R2 H2 (Same.refl H2)
    by_cases hlt : i < l.length
    · refine .inr ⟨(T.2 i _ (List.getElem?_eq_getElem hlt)).1, fun σ' H' => ∃ ρ3 st3 env3, Ext ρ1 st1 H1 ρ3 st3 H' ∧ Rel L ρ3 st3 H' ∧ REnv L ρ3 st3 H' σ' env3 ∧ PostS L W D ρ3 st3 H' (fData t s1 (l.drop (i + 1)) env3 st3), fun σ' H' h' => ⟨_, by omega, hlt, rfl, h'⟩, fun x H' y => ?_⟩
      obtain ⟨rfl, rx⟩ := (T.2 i _ (List.getElem?_eq_getElem hlt)).2 x H' y
      rw [List.drop_eq_getElem_cons hlt] at q2
      simp only [fData] at q2
      cases et : t.put l[i] env2 st2 with
      | none => rw [et] at q2; exact q2.elim
      | some env3 =>
        rw [et] at q2
        refine gT_of R2 rx N2 et fun σ' N' _ => ⟨ρ2, st2, env3, R2, N', ?_⟩
        exact PostS.loop q2 fun ρ' st' H' σ' env' e R N q => ⟨ρ', st', env', e2.trans e, R, N, q⟩
    · have ei : i = l.length := by omega
      subst ei
      rw [List.drop_length] at q2
      exact .inl ⟨T.1 _ (Nat.le_refl _), q2 ρ2 H2 σ2 Ext.refl R2 N2⟩
  | obj n =>
    refine ⟨fun i m σ' H' => ∃ ρ2 st2 env2, Ext ρ1 st1 H1 ρ2 st2 H' ∧ Rel L ρ2 st2 H' ∧ REnv L ρ2 st2 H' σ' env2 ∧ PostS L W D ρ2 st2 H' (fObj t s1 n m i env2 st2), ⟨FU, ρ1, st1, env, Ext.refl, R1, N1, q1⟩, ?_⟩
    rintro i m σ2 H2 ⟨ρ2, st2, env2, e2, R2, N2, q2⟩
    cases m with
    | zero => exact q2.elim
    | succ m =>
      simp only [fObj] at q2
      cases hn : st2[n]? with
      | none => rw [hn] at q2; exact q2.elim
      | some ob =>
        rw [hn] at q2
        cases ob with
        | ml l =>
          have T := hJ ρ2 st2 H2 e2 R2 l hn H2 (Same.refl H2)
          simp only at q2
          cases hl : l[i]? with
          | none =>
            rw [hl] at q2
            exact .inl ⟨T.1 _ (List.getElem?_eq_none_iff.mp hl), q2 ρ2 H2 σ2 Ext.refl R2 N2⟩
          | some d =>
            rw [hl] at q2
            simp only at q2
            refine .inr ⟨(T.2 i _ hl).1, fun σ' H' => ∃ ρ3 st3 env3, Ext ρ1 st1 H1 ρ3 st3 H' ∧ Rel L ρ3 st3 H' ∧ REnv L ρ3 st3 H' σ' env3 ∧ PostS L W D ρ3 st3 H' (fObj t s1 n m (i + 1) env3 st3), fun σ' H' h' => ⟨m, Nat.lt_succ_self _, h'⟩, fun x H' y => ?_⟩
            obtain ⟨rfl, rx⟩ := (T.2 i _ hl).2 x H' y
            cases et : t.put d env2 st2 with
            | none => rw [et] at q2; exact q2.elim
            | some env3 =>
              rw [et] at q2
              refine gT_of R2 rx N2 et fun σ' N' _ => ⟨ρ2, st2, env3, R2, N', ?_⟩
              exact PostS.loop q2 fun ρ' st' H' σ' env' e R N q => ⟨ρ', st', env', e2.trans e, R, N, q⟩
        | _ => exact q2.elim
/-! ### o[i] = e, o a list -/
theorem ds_setL {o i : Expr} {tpos : Pos} (he : PE X e (wE L W h)) (ho : PE X o (wE L W f)) (hi : PE X i (wE L W g))
    (ha : ∀ v, assign (.Subscript o i tpos) X.env v = (do
      let ov ← holding [v] (eval o X.env)
      let iv ← holding [v, ov] (eval i X.env)
      standAt tpos
      holding [v, ov, iv] (setItem ov iv v)
      release [v, ov, iv] []) := by intro _; rfl)
    (hs : swapsWithSole [.Subscript o i tpos] e pos.line X.env = pure false := by rfl) (hw : swappedStores [.Subscript o i tpos] e X.env = pure none := by rfl)
    (h1 : (assignEach [.Subscript o i tpos] X.env).map (·.2) = [assign (.Subscript o i tpos) X.env] := by rfl) : PS X (.Assign [.Subscript o i tpos] e pos) (wS L W (sSetL f g h)) := by
  refine PS.imp (ps_asg he (pg_sub ho hi set_list ha) hs hw h1) ?_
  rintro D σ H ⟨ρ, st, env, R, N, q⟩
  refine wE.mono ?_ (wE_bindS R N q)
  rintro v H1 ⟨ρ1, st1, d, e1, R1, N1, r1, q1⟩
  refine wE.mono ?_ (wE_bindS R1 N1 q1)
  rintro x H2 ⟨ρ2, st2, d2, e2, R2, N2, r2, q2⟩
  refine wE.mono ?_ (wE_bindS R2 N2 q2)
  rintro y H3 ⟨ρ3, st3, d3, e3, R3, N3, r3, q3⟩
  cases r2 with
  | @ref a n h1 =>
    cases r3 with
    | int k =>
      simp only at q3
      cases hn : st3[n]? with
      | none => rw [hn] at q3; exact q3.elim
      | some ob =>
        rw [hn] at q3
        cases ob with
        | ml l =>
          simp only at q3
          have ha := e3.pre _ _ h1
          obtain ⟨xs, z1, z2⟩ := R3.ob n a _ ha hn
          cases hj : TH.ixN l.length k with
          | none => rw [hj] at q3; exact q3.elim
          | some j =>
            rw [hj] at q3
            refine ⟨a, xs, k, j, rfl, rfl, z1, by rw [z2.length, ← ixN_same]; exact hj, ?_⟩
            have ex := ext_set (o := .lst (xs.set j v)) (ob := .ml (l.set j d)) R3 ha hn id
            have rv := Rep.ext (e2.trans e3) _ _ r1
            exact q3 ρ3 _ σ ex (rel_set R3 ha hn id ⟨_, upd_same, Reps.ext ex _ _ (z2.set rv j)⟩) (N3.ext ex)
        | _ => exact q3.elim
    | _ => exact q3.elim
  | _ => exact q3.elim
end
end TH
end
section
set_option Elab.async false
set_option linter.all false
set_option autoImplicit false
set_option maxRecDepth 100000
/-! TH7: errors raised and caught; a caught error is data. -/
namespace TH
open PySem L2 TL

section
variable {X : Cx} {L : Lk} {W : WX} {pins : List (Addr × Obj)} {σ : Sl} {H : Hp} {s : Shared}
/-- a thing that is known by what is true of its one object -/
theorem ext_ok {a : Addr} {c : Addr} {h : Heap} {oe : Obj} {vs : Array Value} (ha : h.get? a = some oe) (hz : Zc (.ref c) none oe) (hd : oe.data = .fields vs) : ObjOk X.prog X.w (upd H a (.ext (excPhi c a))) h a (.ext (excPhi c a)) :=
  ⟨⟨oe, vs, ha, hz.1, hz.2, hd⟩, ⟨oe, ha⟩, fun h1 h2 ⟨o, us, e, q⟩ k => ⟨o, us, k o e, q⟩⟩
theorem Inv.track (I : L2.Inv X pins σ H s) {a c : Addr} {oe : Obj} {vs : Array Value} (ha : s.heap.get? a = some oe) (hz : Zc (.ref c) none oe) (hd : oe.data = .fields vs) (na : H a = none) (nL : a ≠ X.env.locals)
    (n0 : X.s_0.heap.get? a = none) (np : ∀ p ∈ X.pn ++ pins, p.1 ≠ a) : L2.Inv X pins σ (upd H a (.ext (excPhi c a))) s := by
  have ne : ∀ {b : Addr} {u : HO}, H b = some u → b ≠ a := fun h => ne_of_none h na
  have B := I.base
  refine ⟨I.ok, I.os, I.bare, ⟨B.keep, B.slot, fun b o e n hx => ?_, B.there, fun b xs e => ?_, fun b o u e => ?_, fun b ps e => ?_⟩, I.loc, I.cell, ?_, fun x cc e => ?_, fun p hp => ?_, fun b u e => ?_, I.len⟩
  · rw [upd_ne (show b ≠ a from fun z => by rw [z, n0] at e; cases e)]
    exact B.free b o e n hx
  · have q := B.tups b xs e
    rw [upd_ne (ne q)]
    exact q
  · have q := B.frzs b o u e
    rw [upd_ne (ne q)]
    exact q
  · obtain ⟨more, q⟩ := B.tbls b ps e
    exact ⟨more, by rw [upd_ne (ne q)]; exact q⟩
  · rw [upd_ne (Ne.symm nL)]
    exact I.free
  · obtain ⟨v, o, q, d⟩ := I.cell x cc e
    rw [upd_ne (show cc ≠ a from fun z => by rw [z, ha] at q; cases q; rw [hd] at d; cases d)]
    exact I.freeC x cc e
  · obtain ⟨q1, q2, q3⟩ := I.pin p hp
    exact ⟨q1, by rw [upd_ne (np p hp)]; exact q2, q3⟩
  · by_cases hb : b = a
    · subst hb
      rw [upd_same] at e
      cases e
      exact ext_ok ha hz hd
    · rw [upd_ne hb] at e
      exact (I.hok b u e).stay (fun _ _ _ q => q) (fun b' q => by rw [upd_ne (ne q)]; exact q) fun b' xs q => by rw [upd_ne (ne q)]; exact q
/-- the suite's context, nothing pinned -/
theorem Inv.intoSuite (I : L2.Inv X pins σ H s) (a : Addr) : L2.Inv (X.suite a (X.pn ++ pins)) [] σ H s :=
  ⟨I.ok.suite _ _, I.os, I.bare, I.base, I.loc, I.cell, I.free, I.freeC, fun p hp => by rw [List.append_nil] at hp; exact I.pin p hp, I.hok, I.len⟩
theorem Inv.outSuite {a : Addr} {pn' : List (Addr × Obj)} (I : L2.Inv (X.suite a (X.pn ++ pins)) pn' σ H s) (ok : X.Ok) : L2.Inv X pins σ H s :=
  ⟨ok, I.os, I.bare, I.base, I.loc, I.cell, I.free, I.freeC, fun p hp => I.pin p (List.mem_append_left _ hp), I.hok, I.len⟩

/-! ### raise -/
theorem ds_raise {e : Expr} {pos : Pos} {c : Nat} (hc : X.calm = true) (tk : Takes X W) (he : PMk X e (fun _ H Q => Q (.ref (L.ca c)) none H)) : PS X (.Raise (some e) none pos) (wS L W (sRaise c)) := by
  refine PS.imp (ps_raise hc tk he) ?_
  rintro D σ H ⟨ρ, st, env, R, N, q⟩
  exact q ρ H σ Ext.refl R N

/-- what the clause wishes of an error of the body -/
def wCatch (L : Lk) (W : WX) (D : Ends) (takes : Nat → Option Bool) (hd : Nat → Env → St → RS) : WX := fun cls d σ H =>
  ∃ c b ρ st env, cls = .ref (L.ca c) ∧ d = none ∧ takes c = some b ∧ Rel L ρ st H ∧ REnv L ρ st H σ env ∧ (if b = true then PostS L W D ρ st H (hd c env st) else W cls d σ H)
theorem PostS.try_ {D : Ends} {ρ : Ly} {st : St} {H : Hp} {takes : Nat → Option Bool} {hd : Nat → Env → St → RS} {r : RS}
    (q : PostS L W D ρ st H (match r with | .exn c env st => (match takes c with | some true => hd c env st | some false => .exn c env st | none => .stuck) | r => r)) : PostS L (wCatch L W D takes hd) D ρ st H r := by
  cases r with
  | exn c env st' =>
    simp only at q
    cases et : takes c with
    | none => rw [et] at q; exact q.elim
    | some b =>
      rw [et] at q
      intro ρ' H' σ' e R N
      refine ⟨c, b, ρ', st', env, rfl, rfl, et, R, N, ?_⟩
      cases b with
      | true => exact iteT (PostS.ext q e)
      | false => exact iteF (q ρ' H' σ' e R N)
  | nx env st' => exact q
  | ret d st' => exact q
  | brk env st' => exact q
  | stuck => exact q
theorem PostS.handled {D : Ends} {ρ : Ly} {st : St} {H : Hp} {i : Nat} {r : RS} (q : PostS L W D ρ st H (match r with | .nx env3 st3 => .nx (env3.set i none) st3 | .brk env3 st3 => .brk (env3.set i none) st3 | .exn _ _ _ => .stuck | r => r)) :
    PostS L W0 { D with nx := fun σ H => D.nx (σ.set i none) H, bk := fun σ H => D.bk (σ.set i none) H, ct := fun σ H => D.ct (σ.set i none) H } ρ st H r := by
  cases r with
  | nx env st' => exact fun ρ' H' σ' e R N => q ρ' H' _ e R (N.unset i)
  | ret d st' => exact q
  | brk env st' => exact fun ρ' H' σ' e R N => q ρ' H' _ e R (N.unset i)
  | exn c env st' => exact q.elim
  | stuck => exact q
theorem PostS.handled0 {D : Ends} {ρ : Ly} {st : St} {H : Hp} {r : RS} (q : PostS L W D ρ st H (match r with | .exn _ _ _ => .stuck | r => r)) : PostS L W0 D ρ st H r := by
  cases r with
  | exn c env st' => exact q.elim
  | nx env st' => exact q
  | ret d st' => exact q
  | brk env st' => exact q
  | stuck => exact q
/-- try: body / except X as n: suite -/
theorem ds_try_as {x n : Str} {cv : Value} {i : Nat} {body suite : List Stmt} {b₀ : Stmt} {np pos pos' : Pos} {s1 h : SM} {takes : Nat → Option Bool} (hs : X.stack = X.env :: X.outer) (hf : X.env.frame = some X.env.locals) (hex : X.ex = []) (hN : X.N.Nodup)
    (hi : X.N[i]? = some n) (hln : X.env.kindOf n = some .local) (hc : Names X x cv) (tk : Takes X W) (htk : ∀ c b, takes c = some b → PySem.W.exmOne X.K (.ref (L.ca c)) cv = some b)
    (hb : ∀ (W' : WX) (pn : List (Addr × Obj)) (xe : Value → Shared → Prop), Takes (X.tr pn xe) W' → PassesOwn (model X.prog X.w) X.A X.env xe → PSs (X.tr pn xe) body (wS L W' s1))
    (hsu : ∀ (a : Addr) (pn : List (Addr × Obj)), PSs (X.suite a pn) (b₀ :: suite) (wS L W0 h)) :
    PS X (.Try body [.ExceptHandler (some (.Name x np)) (some n) (b₀ :: suite) pos'] [] [] pos) (wS L W (sTry s1 takes (hdAs i h))) := by
  refine ⟨fun pins s σ H D I hq => ?_⟩
  obtain ⟨ρ0, st0, env0, R0, N0, q0⟩ := hq
  have q0 := PostS.try_ q0
  have ok := I.ok
  have hfr : X.A.frames = some (X.env :: X.outer) := by rw [ok.frames, hs]
  have hloc : Loc X.env.scope n := .inl hln
  refine wpAny_Try_except ?_
  refine wpAny_mono
    ((hb (wCatch L W D takes (hdAs i h)) (X.pn ++ pins) _ (fun u s' xx => ?_) PassesOwn.looking).run [] s σ H D (I.toTry _) ⟨ρ0, st0, env0, R0, N0, q0⟩)
    (fun f s1 hsp => ?_) (fun e s1 he => he)
  · obtain ⟨a, B, sI, pins', σ', H', cls, d, rfl, J', nb, up, sky, na, os, ag, c, b, ρ, st, env, rfl, rfl, hb1, R, N, hq⟩ := xx
    have J : L2.Inv X pins σ' H' sI := J'.ofTry ok
    have sky' : Sky B (X.env :: X.outer) a (Zc (.ref (L.ca c)) none) X.env.locals s'.heap := by rw [← hs]; exact sky
    show wpAny (model X.prog X.w) X.A (noteFrame (.ref a) X.env) _ _ _
    refine Sky.land Zc.steady hfr hf sky' fun h3 fl3 up3 => ?_
    have J3 : L2.Inv X pins σ' H' { s' with heap := h3 } := J.landed nb fl3.1 (up.trans up3) os ag
    obtain ⟨oe3, vs3, he3, hz3, hd3⟩ := fl3.there
    have frOf : ∀ {h : Heap} {o : Obj} {vs : Array Value}, h.FunFrames B (X.env :: X.outer) → h.get? a = some o → o.data = .fields vs → a ∉ frs (X.env :: X.outer) := fun {h o vs} ff e dd hm => by
      obtain ⟨_, o', e', hnf⟩ := ff.mem hm
      rw [e] at e'
      cases e'
      exact hnf _ dd
    have nfr := frOf fl3.2.2.1 he3 hd3
    have nL : a ≠ X.env.locals := fun z => nfr (List.mem_filterMap.mpr ⟨X.env, List.mem_cons_self, by rw [hf, z]⟩)
    -- the error is younger than all that stood at the entry
    have nI : sI.heap.get? a = none := by
      cases q : sI.heap.get? a with
      | none => rfl
      | some o =>
        have z := nb a o q (by rw [hs]; exact nfr)
        rw [fl3.2.1] at z
        cases z
    have n0 : X.s_0.heap.get? a = none := by
      cases q : X.s_0.heap.get? a with
      | none => rfl
      | some o =>
        obtain ⟨o', z⟩ := J.base.there a o q (by rw [hex]; simp)
        rw [nI] at z
        cases z
    have npa : ∀ p ∈ X.pn ++ pins, p.1 ≠ a := fun p hp z => by
      have k := (J.pin p hp).1
      rw [z, nI] at k
      cases k
    refine wpAny_handleBy_cons (codeAny_handlers_test ?_) (by intro q; cases q)
    have LT : PySem.W.Looks (model X.prog X.w) h3 (typeOf (.ref a)) (.ref (L.ca c)) := fun A Q E s k q => wpAny_typeOf_ref (k _ _ he3) (by rw [hz3.1]; exact q)
    have LM := PySem.W.exm_one (M := model X.prog X.w) (J3.kIn) LT (htk c b hb1)
    have test : ∀ {Q : Value → Shared → Prop} {E : Value → Shared → Prop}, Q cv { s' with heap := h3 } → wpAny (model X.prog X.w) (X.A.mark (some (.ref a))) (eval (.Name x np) X.env) Q E { s' with heap := h3 } := fun {Q E} q => by
      have S3 := Inv.intoSuite J3 a
      obtain ⟨hg, hdbg, hm | ⟨hm, hv, hnn⟩⟩ := hc
      · exact ld_glob (X := X.suite a (X.pn ++ pins)) S3 hg hm q hdbg
      · exact ld_blt (X := X.suite a (X.pn ++ pins)) S3 hg hm hv q hnn hdbg
    refine test (LM.here ?_)
    cases b with
    | true =>
      rw [if_pos rfl] at hq
      refine codeAny_handlers_suite_as ?_
      refine HandSPX.lands_againZ fl3 fun h4 fl4 up4 => ?_
      have J4 : L2.Inv X pins σ' H' { s' with heap := h4 } := J.landed nb fl4.1 ((up.trans up3).trans up4) os ag
      obtain ⟨oe4, vs4, he4, hz4, hd4⟩ := fl4.there
      have T4 := Inv.track J4 he4 hz4 hd4 na nL n0 npa
      have S4 := Inv.intoSuite T4 a
      have x4 : Ext ρ st H' ρ st (upd H' a (.ext (excPhi (L.ca c) a))) := ext_new R na
      have R4 := rel_new (o := .ext (excPhi (L.ca c) a)) R na
      have N4 := (N.ext x4).set (v := .ref a) (d := .exc c) (.exc upd_same (imm_new R na)) i
      refine store_ok (X := X.suite a (X.pn ++ pins)) (v := .ref a) S4 hN hi hloc rfl (fun s5 S5 => ?_) (.inr hln)
      have k5 := (hsu a (X.pn ++ pins)).run [] s5 _ _ _ S5 ⟨ρ, st, _, R4, N4, PostS.handled (PostS.ext hq x4)⟩
      refine wpAny_mono k5 (fun f s6 hsp => ?_) (fun _ _ z => False.elim z)
      have fin : ∀ {σ6 : Sl} {H6 : Hp} {Q : Shared → Prop}, L2.Inv (X.suite a (X.pn ++ pins)) [] σ6 H6 s6 → (∀ s7, L2.Inv X pins (σ6.set i none) H6 s7 → Q s7) →
          wpAny (model X.prog X.w) X.A (do bindName X.env n .none; unbindBehindTheSuite X.env n pos') (fun _ s7 => Q s7) X.xe s6 := fun {σ6 H6 Q} S6 k => gone_ok (Inv.outSuite S6 ok) hN hi hln k
      cases f with
      | next =>
        obtain ⟨σ6, H6, S6, q6⟩ := hsp
        exact fin S6 fun s7 J7 => ⟨_, _, J7, q6⟩
      | brk =>
        obtain ⟨σ6, H6, S6, q6⟩ := hsp
        exact fin S6 fun s7 J7 => ⟨_, _, J7, q6⟩
      | cont =>
        obtain ⟨σ6, H6, S6, q6⟩ := hsp
        exact fin S6 fun s7 J7 => ⟨_, _, J7, q6⟩
      | ret u =>
        obtain ⟨v6, σ6, H6, S6, r6, q6⟩ := hsp
        exact fin S6 fun s7 J7 => ⟨_, _, _, J7, r6, q6⟩
    | false =>
      rw [if_neg Bool.false_ne_true] at hq
      show wpAny _ X.A (handleBy (.ref a) X.env []) _ _ _
      refine wpAny_handleBy_nil ?_
      obtain ⟨k1, k2, k3, oe, vs, T, oT, ts', he, hz, hd, h1, hr⟩ := id fl3
      unfold PySem.passOn
      refine wpAny_bind (wpAny_field he hd h1 ?_)
      rw [if_neg (show ¬ ((Value.ref T == Value.none) = true) from by simp)]
      have fin : wpAny (model X.prog X.w) X.A (setFlight (.ref a) X.env.frame) (fun _ s4 => wpAny (model X.prog X.w) X.A (throw (.ref a) : Sem Flow) (SP X pins D) X.xe s4) X.xe { s' with heap := h3 } := by
        rw [hf]
        refine HandSPX.setFlight_upZ fl3 fun h4 hh4 up4 => wpAny_throw (tk _ _ ?_)
        exact ⟨a, B, sI, pins, σ', H', .ref (L.ca c), none, rfl, J, nb, (up.trans up3).trans up4, .inr (.inr (by rw [hs]; exact hh4)), na, os, ag, hq⟩
      first
        | exact wpAny_bind (wpAny_pure (wpAny_bind fin))
        | exact wpAny_bind fin
  · cases f with
    | next =>
      obtain ⟨σ', H', J', q⟩ := hsp
      exact wpAny_execs_nil ⟨σ', H', J'.ofTry ok, q⟩
    | brk =>
      obtain ⟨σ', H', J', q⟩ := hsp
      exact ⟨σ', H', J'.ofTry ok, q⟩
    | cont =>
      obtain ⟨σ', H', J', q⟩ := hsp
      exact ⟨σ', H', J'.ofTry ok, q⟩
    | ret u =>
      obtain ⟨v, σ', H', J', r, q⟩ := hsp
      exact ⟨v, σ', H', J'.ofTry ok, r, q⟩
end
end TH
end
section
set_option Elab.async false
set_option linter.all false
set_option autoImplicit false
set_option maxRecDepth 100000
/-! TH8: isinstance; comprehensions given to a name; defs; the law's end. -/
namespace TH
open PySem L2 TL PyProof.Rows

section
variable {X : Cx} {L : Lk} {W : WX}
/-- isinstance by what stands in the heap -/
def rIsiV (L : Lk) (ans : D → St → Option Bool) (u : Value) : List V → Hp → VK → Prop := fun xs H Q => ∃ (ρ : Ly) (st : St) (x c : V) (d : D) (b : Bool), xs = [x, c] ∧ RelV c u ∧ Rel L ρ st H ∧ Rep L ρ st H x d ∧ ans d st = some b ∧ Q (.bl b) H
/-- the built-in types -/
def tyS : Nat → String
  | 0 => "NoneType"
  | 1 => "bool"
  | 2 => "int"
  | 3 => "str"
  | 4 => "tuple"
  | _ => "list"
theorem tyN_rep {ρ : Ly} {st : St} {H : Hp} {x : V} {d : D} {k : Nat} (r : Rep L ρ st H x d) (e : tyN st d = some k) : TyX L.K H x (.type (tyS k)) := by
  cases r with
  | non => cases e; exact .base .non
  | bl b => cases e; exact .base (.bl b)
  | int i => cases e; exact .base (.int i)
  | str s => cases e; exact .base (.str s)
  | tup h1 h2 =>
    cases e
    exact .base (.tup h1.1)
  | lst h1 h2 =>
    cases e
    rcases h1 with ⟨h | ⟨o, h⟩, _⟩ | ⟨o, its, n, h, hc, _⟩
    · exact .base (.lst h)
    · exact .base (.frz h)
    · exact .kList h hc
  | ref h => cases e
  | exc h h2 => cases e
theorem tyN_lt {st : St} {d : D} {k : Nat} (e : tyN st d = some k) : k < 6 := by
  cases d <;> simp [tyN] at e <;> omega
theorem isi_ty {k : Nat} (hk : ∀ t, t < 6 → kitB (tyS t) (tyS k) = some (t == k || (t == 1 && k == 2))) : CallR X (.builtin "isinstance") (fun xs H Q => X.K = L.K ∧ rIsiV L (isiT k) (.type (tyS k)) xs H Q) := by
  refine CallR.imp call_isi ?_
  rintro xs H Q ⟨hK, ρ, st, x, c, d, b, rfl, rc, R, r, e, q⟩
  unfold isiT at e
  obtain ⟨t, et, rfl⟩ := Option.map_eq_some_iff.mp e
  cases c with
  | ty n =>
    have rc : Value.type (tyS k) = Value.type n := rc
    cases rc
    exact ⟨x, _, .type (tyS t), _, _, rfl, .ty _, by rw [hK]; exact tyN_rep r et, kit_ty (hk t (tyN_lt et)), q⟩
  | _ => first | cases (show Value.type (tyS k) = _ from rc) | (obtain ⟨t, z⟩ := (show ∃ t, Value.type (tyS k) = _ from rc); cases z)
/-- of a caught error -/
theorem isi_exc {sub : Nat → Option Bool} {u : Value} (hE : ∀ c b, sub c = some b → ExcC L.K (L.ca c) ∧ PySem.W.kitOne L.K (.ref (L.ca c)) u = some b) (hu : ∀ (c : V) (w : Value), RelV c u → RelV c w → w = u) : CallR X (.builtin "isinstance") (fun xs H Q => X.K = L.K ∧ rIsiV L (isiE sub) u xs H Q) := by
  rintro pins s σ H xs us Q I r ⟨hK, ρ, st, x, c, d, b, rfl, rc, R, rx, e, q⟩
  unfold isiE at e
  split at e
  · rename_i cn
    obtain ⟨u1, u2, rfl, r1, r2⟩ := vals2 r
    have e2 := hu c u2 rc r2
    subst e2
    cases rx with
    | @exc a _ h1 h2 =>
      cases (show u1 = Value.ref a from r1)
      obtain ⟨E, k⟩ := hE cn b e
      obtain ⟨⟨o, vs, g1, g2, g3, g4⟩, _⟩ := I.hok a _ h1
      obtain ⟨oc, od, oda, osl⟩ := o
      dsimp only at g2 g3 g4
      subst g2 g3 g4
      rw [← hK] at k E
      exact PySem.W.kia_one (PySem.W.handS_kitx_exc E.hg E.hk E.hs E.hd E.ha E.hn E.ht E.hm) I.kIn ⟨g1, rfl, rfl, trivial⟩ k (fun z => nomatch z) fun tk => ⟨.bl b, H, I.kept (t' := tk) fun _ _ z => z, rfl, q⟩
  · cases e
theorem de_isi {ans : D → St → Option Bool} {u : Value} {cv : V} {a ce : Expr} {f : EM} {p pos : Pos} (hr : CallR X (.builtin "isinstance") (fun xs H Q => X.K = L.K ∧ rIsiV L ans u xs H Q)) (hK : X.K = L.K) (hm : X.mg "isinstance" = none) (ha : PE X a (wE L W f)) (hce : PE X ce (tC cv)) (hcv : RelV cv u)
    (hg : Gl X "isinstance" := by rfl) (hb : bootBuiltins "isinstance" = some (.builtin "isinstance") := by decide +kernel) (hs : starEach [ce] X.env = (false, eval ce X.env) :: starEach [] X.env := by rfl) (he : starEach [a, ce] X.env = (false, eval a X.env) :: starEach [ce] X.env := by rfl) (hpl : (backTo pos (starEach [ce] X.env)).any (·.1) = false := by rfl) :
    PE X (.Call (.Name "isinstance" p) [a, ce] [] pos) (wE L W (xIsi ans f)) := by
  refine PE.imp (pe_callB hr hg hm hb (pa_cons ha (pa_cons hce pa_nil hs) he) (by decide) (by decide) he hpl) ?_
  rintro σ H Q ⟨ρ, st, env, R, N, q⟩
  refine wE.mono ?_ (wE_bind R N q)
  rintro v H1 ⟨ρ1, st1, d, e1, R1, N1, r1, q1⟩
  obtain ⟨d2, ed, q2⟩ := ofO_post q1
  obtain ⟨b, eb, rfl⟩ := Option.map_eq_some_iff.mp ed
  exact ⟨hK, ρ1, st1, v, cv, d, b, rfl, hcv, R1, r1, eb, q2.here R1 _ (.bl b)⟩
/-- name = [..] -/
theorem ds_setC {i : Nat} {y : Str} {py : Pos} {elt tg iter : Expr} {ifs : List Expr} {scope : Scope} {own : List (Str × Nat)} {pos spos : Pos} {it : IM} {t : Tg} {c : Option EM} {el f : EM} {vs : List Nat} (hf : f = xLst (lComp it t c el vs) ∨ f = xMut (lComp it t c el vs)) (hc : X.calm = true) (hN : X.N.Nodup) (ok : BlkOk X.N X.env.scope scope own) (hi : PI X tg iter (wI L W it))
    (hg : ∀ (s : Shared) (H : Hp) (C : Addr) (cl : List (Str × Addr)) (fp : List Addr), PG (X.blk s H scope (compEnvC scope cl C X.env) fp) tg (gT L t))
    (ht : ∀ (s : Shared) (H : Hp) (C : Addr) (cl : List (Str × Addr)) (fp : List Addr), PTs (X.blk s H scope (compEnvC scope cl C X.env) fp) ifs (wTs L c))
    (he : ∀ (s : Shared) (H : Hp) (C : Addr) (cl : List (Str × Addr)) (fp : List Addr), PE (X.blk s H scope (compEnvC scope cl C X.env) fp) elt (wE L W0 el))
    (hy : X.N[i]? = some y := by rfl) (hyl : X.env.scope.names.lookup y = some .local := by rfl) (hsw : swapsWith (.ListComp elt [⟨tg, iter, ifs, 0⟩] scope pos) (some (.Name y py)) spos.line X.env = pure true := by exact sw_true rfl rfl rfl (by decide +kernel))
    (ev : own.map (·.2) = vs := by rfl) (hsl : ∀ i ∈ t.slots, i ∈ vs := by decide) (hs : ∀ x, foldedSetIterable iter X.env x = pure x := by intro _; rfl) :
    PS X (.Assign [.Name y py] (.ListComp elt [⟨tg, iter, ifs, 0⟩] scope pos) spos) (wS L W (sSet i f)) := by
  subst ev
  refine PS.imp (ps_setLc hc hN hy hyl hsw hi ok hg ht he hs) ?_
  rintro D σ H ⟨ρ, st, env, R, N, q⟩
  have z : wE L W f σ H fun x H1 => gName i x σ H1 D.nx := by
    refine wE.mono ?_ (wE_bindS R N q)
    rintro v H1 ⟨ρ1, st1, d, e1, R1, N1, r1, q1⟩
    exact q1 ρ1 H1 _ Ext.refl R1 (N1.set r1 i)
  rcases hf with rfl | rfl
  · exact comp_tLc hsl (new_wL z)
  · exact comp_tLc hsl (mut_wL z)
end

/-! ### defs -/
section
variable {P : Program} {w : World} {K : PySem.W.Frag} {mg : Str → Option Value} {base : Heap} {L : Lk}
theorem start_env {ρ : Ly} {st : St} {H : Hp} {N : List Str} {vs : List V} {ds : List D} (r : Reps L ρ st H vs ds) : REnv L ρ st H (L2.start N vs) (ds.map some ++ List.replicate (N.length - ds.length) none) := by
  unfold L2.start
  rw [r.length]
  refine ⟨by simp [r.length], fun i d h => ?_⟩
  by_cases hi : i < ds.length
  · rw [List.getElem?_append_left (by simpa using hi), List.getElem?_map] at h
    obtain ⟨d', h1, h2⟩ := Option.map_eq_some_iff.mp h
    cases h2
    obtain ⟨v, hv, rv⟩ := r.got h1
    refine ⟨v, ?_, rv⟩
    rw [List.getElem?_append_left (by simpa [r.length] using hi), List.getElem?_map, hv]
    rfl
  · rw [List.getElem?_append_right (by simpa using hi), List.getElem?_replicate] at h
    split at h <;> cases h
/-- the wish of a def's body -/
abbrev WD (E : XK) : WX := fun cls d _ H => E cls d H
theorem fn_ok {x qual : Str} {stm : Stmt} {f : Addr} {fd : FuncData} {N ps : List Str} {k n sl : Nat} {sm : SM} (F : Fun K x qual stm f fd) (S : FnScope N ps (defScope stm)) (hn : ps.length = n) (hsl : N.length = sl)
    (hbody : ∀ (cdv : Value) (A : Around) (outer : List PySem.Env) (s : Shared) (H : Hp) (E : XK), Room k (A.deeper (envOfC qual (defScope stm) s.heap.objs.size f cdv)) →
      PSs (cxOf (L2.CX P w) P w K mg base N qual (defScope stm) f cdv A outer s H E) (defBody stm) (wS L (WD E) sm)) : FnOk P w K mg base (L2.CX P w) (k + 1) f fd ps (spC L (body n sl sm)) := by
  subst hn hsl
  have lens : ∀ vs H Q E, spC L (body ps.length N.length sm) vs H Q E → vs.length = ps.length := by
    rintro vs H Q E ⟨ρ, st, ds, R, r, q⟩
    unfold body at q
    split at q
    · rename_i h
      rw [r.length, h]
    · exact q.elim
  refine F.okX S lens fun cdv A outer s H vs Q E hr h => ⟨_, hbody cdv A outer s H E hr, ?_⟩
  obtain ⟨ρ, st, ds, R, r, q⟩ := h
  unfold body at q
  split at q
  · refine ⟨ρ, st, _, R, start_env r, ?_⟩
    cases e : sm (ds.map some ++ List.replicate (N.length - ds.length) none) st with
    | nx env st' =>
      rw [e] at q
      exact fun ρ' H' σ' e R N => q ρ' H' e R _ .non
    | ret d st' =>
      rw [e] at q
      exact fun ρ' H' v e R r => q ρ' H' e R v r
    | brk env st' => rw [e] at q; exact q.elim
    | exn c env st' =>
      rw [e] at q
      exact fun ρ' H' σ' e R N => q ρ' H' e R
    | stuck => rw [e] at q; exact q.elim
  · exact q.elim
theorem fn_none {f : Addr} {fd : FuncData} {ps : List Str} {k : Nat} : FnOk P w K mg base (L2.CX P w) k f fd ps (spC L fun _ _ => .stuck) :=
  ⟨fun _ _ _ _ ⟨_, _, _, _, _, q⟩ => q.elim, fun _ _ _ _ _ _ _ _ _ _ _ _ _ ⟨_, _, _, _, _, q⟩ => q.elim⟩
/-- what the law's end asks -/
theorem law_end {c : List D → St → RE} {H : Hp} {a : Addr} {ns : List Int} (ho : Only H) (hs : SqL L.K H a (ns.map V.int)) (h : ∃ st, c [.lst (ns.map D.int)] [] = .ok (.bl true) st) :
    spC L c [.ref a] H (fun v _ => v = .bl true) fun _ _ _ => False := by
  have reps : ∀ ns : List Int, Reps L ⟨[], []⟩ [] H (ns.map V.int) (ns.map D.int) := fun ns => by
    induction ns with
    | nil => exact .nil
    | cons n ns ih => exact .cons (.int n) ih
  have R : Rel L ⟨[], []⟩ [] H := ⟨rfl, List.nodup_nil, fun a h => (by cases h), fun n a o h => (by simp at h)⟩
  refine ⟨⟨[], []⟩, [], [.lst (ns.map D.int)], R, .cons (.lst ?_ (reps ns)) .nil, ?_⟩
  · rcases hs with h | h
    · exact .inl ⟨h, fun h => (by cases h), fun n hn => (by simp at hn)⟩
    · exact .inr h
  · obtain ⟨st, e⟩ := h
    rw [e]
    intro ρ' H' _ _ v r
    cases r
    rfl
/-! ### what the printed terms use -/
theorem units65 {A : Around} {k : Nat} (hr : Room k A) : A.units + 65 < cLine := by have := hr.un; omega
section
variable {X : Cx} {W : WX} {pos : Pos} {x : Str}
theorem deg_int {n : Int} (h : ∃ t, X.mg x = some (.int n t)) (hg : Gl X x := by rfl) (hd : (x == ("__debug__" : Str)) = false := by decide) : PE X (.Name x pos) (wE L W (xC (.int n))) := by
  obtain ⟨t, h⟩ := h
  exact de_con (pe_glob (v := .int n) hg h ⟨t, rfl⟩ hd) fun _ _ _ => .int n
theorem deg_str {z : Str} {s : List Nat} (h : ∃ t, X.mg x = some (.str z t)) (e : tl z = s := by rfl) (hg : Gl X x := by rfl) (hd : (x == ("__debug__" : Str)) = false := by decide) : PE X (.Name x pos) (wE L W (xC (.str s))) := by
  obtain ⟨t, h⟩ := h
  exact de_con (pe_glob (v := .str z) hg h ⟨t, rfl⟩ hd) fun _ _ _ => rep_mk z e
end
theorem cls_uniq {c : V} {C : Addr} {w : Value} (h1 : RelV c (.ref C)) (h2 : RelV c w) : w = .ref C := by
  cases c with
  | ref a => cases (show Value.ref C = Value.ref a from h1); exact h2
  | non => cases (show Value.ref C = Value.none from h1)
  | bl b => cases (show Value.ref C = Value.bool b from h1)
  | int i => obtain ⟨t, z⟩ := (show ∃ t, Value.ref C = Value.int i t from h1); cases z
  | str i => obtain ⟨t, z⟩ := (show ∃ t, Value.ref C = Value.str i t from h1); cases z
  | byt i => obtain ⟨t, z⟩ := (show ∃ t, Value.ref C = Value.bytes i t from h1); cases z
  | flt i => obtain ⟨t, z⟩ := (show ∃ t, Value.ref C = Value.float i t from h1); cases z
  | ty n => cases (show Value.ref C = Value.type n from h1)
theorem ty_uniq {c : V} {C : String} {w : Value} (h1 : RelV c (.type C)) (h2 : RelV c w) : w = .type C := by
  cases c with
  | ty n => cases (show Value.type C = Value.type n from h1); exact h2
  | non => cases (show Value.type C = Value.none from h1)
  | bl b => cases (show Value.type C = Value.bool b from h1)
  | int i => obtain ⟨t, z⟩ := (show ∃ t, Value.type C = Value.int i t from h1); cases z
  | str i => obtain ⟨t, z⟩ := (show ∃ t, Value.type C = Value.str i t from h1); cases z
  | byt i => obtain ⟨t, z⟩ := (show ∃ t, Value.type C = Value.bytes i t from h1); cases z
  | flt i => obtain ⟨t, z⟩ := (show ∃ t, Value.type C = Value.float i t from h1); cases z
  | ref n => cases (show Value.type C = Value.ref n from h1)
theorem bl_eq {x y : D} {st : St} {d : D} (h : oEq x y st = some d) : ∃ b, d = .bl b := by
  unfold oEq at h
  obtain ⟨k, _, rfl⟩ := Option.map_eq_some_iff.mp h
  exact ⟨k, rfl⟩
theorem bl_ne {x y : D} {st : St} {d : D} (h : oNe x y st = some d) : ∃ b, d = .bl b := by
  unfold oNe at h
  obtain ⟨k, _, rfl⟩ := Option.map_eq_some_iff.mp h
  exact ⟨_, rfl⟩
theorem bl_lt {x y : D} {st : St} {d : D} (h : oLt x y st = some d) : ∃ b, d = .bl b := by
  unfold oLt at h
  split at h <;> first | (cases h; exact ⟨_, rfl⟩) | cases h
theorem bl_le {x y : D} {st : St} {d : D} (h : oLe x y st = some d) : ∃ b, d = .bl b := by
  unfold oLe at h
  split at h <;> first | (cases h; exact ⟨_, rfl⟩) | cases h
theorem bl_gt {x y : D} {st : St} {d : D} (h : oGt x y st = some d) : ∃ b, d = .bl b := by
  unfold oGt at h
  split at h <;> first | (cases h; exact ⟨_, rfl⟩) | cases h
theorem bl_ge {x y : D} {st : St} {d : D} (h : oGe x y st = some d) : ∃ b, d = .bl b := by
  unfold oGe at h
  split at h <;> first | (cases h; exact ⟨_, rfl⟩) | cases h
theorem bl_in {x y : D} {st : St} {d : D} (h : oIn x y st = some d) : ∃ b, d = .bl b := oIn_bl h
theorem bl_notIn {x y : D} {st : St} {d : D} (h : oNotIn x y st = some d) : ∃ b, d = .bl b := by
  unfold oNotIn at h
  split at h <;> first | (cases h; exact ⟨_, rfl⟩) | cases h
theorem bl_is {x y : D} {st : St} {d : D} (h : oIs x y st = some d) : ∃ b, d = .bl b := by
  unfold oIs at h
  split at h
  · split at h <;> (cases h; exact ⟨_, rfl⟩)
  · split at h <;> (cases h; exact ⟨_, rfl⟩)
  · cases h
theorem bl_isNot {x y : D} {st : St} {d : D} (h : oIsNot x y st = some d) : ∃ b, d = .bl b := by
  unfold oIsNot at h
  split at h
  · split at h <;> (cases h; exact ⟨_, rfl⟩)
  · split at h <;> (cases h; exact ⟨_, rfl⟩)
  · cases h
end
end TH
end
section
set_option Elab.async false
set_option linter.all false
set_option autoImplicit false
set_option maxRecDepth 100000
/-! TH15: instances: attributes, methods, making. -/
namespace TH
open PySem L2 TL
section
variable {L : Lk} {ρ ρ' : Ly} {st st' : TH.St} {H H' : Hp}
/-- the fields' names are told apart -/
def FldOk (L : Lk) (nf f : Nat) : Prop := ∀ g, g < nf → L.fld g = L.fld f → g = f
theorem Flds.get {nf f : Nat} (hj : FldOk L nf f) {d : D} : ∀ {vs : List (Str × V)} {fs : List (Nat × D)}, Flds L ρ st H vs fs → fok nf fs = true → fget f fs = some d → ∃ v, vs.lookup (L.fld f) = some v ∧ Rep L ρ st H v d
  | _, _, .nil, _, e => by cases e
  | _, _, .cons (f := g) (v := v) (d := x) h1 h2, k, e => by
    unfold fok at k
    rw [List.all_cons, Bool.and_eq_true, decide_eq_true_eq] at k
    unfold fget at e
    by_cases hg : g = f
    · subst hg
      rw [if_pos rfl] at e
      cases e
      exact ⟨v, by rw [List.lookup_cons]; simp, h1⟩
    · rw [if_neg hg] at e
      have hne : (L.fld f == L.fld g) = false := by
        rw [beq_eq_false_iff_ne]
        exact fun z => hg (hj g k.1 z.symm)
      obtain ⟨w, z1, z2⟩ := Flds.get hj h2 k.2 e
      exact ⟨w, by rw [List.lookup_cons, hne]; exact z1, z2⟩
theorem Flds.put {nf f : Nat} (hj : FldOk L nf f) {y : V} {d : D} (r : Rep L ρ st H y d) : ∀ {vs : List (Str × V)} {fs : List (Nat × D)}, Flds L ρ st H vs fs → fok nf fs = true → Flds L ρ st H (putF (L.fld f) y vs) (fput f d fs)
  | _, _, .nil, _ => .cons r .nil
  | _, _, .cons (f := g) (v := v) (d := x) h1 h2, k => by
    unfold fok at k
    rw [List.all_cons, Bool.and_eq_true, decide_eq_true_eq] at k
    unfold fput putF
    by_cases hg : g = f
    · subst hg
      rw [if_pos rfl, if_pos rfl]
      exact .cons r h2
    · rw [if_neg hg, if_neg fun z => hg (hj g k.1 z)]
      exact .cons h1 (Flds.put hj r h2 k.2)
theorem Flds.no {nf : Nat} {m : Str} (hm : ∀ g, g < nf → L.fld g ≠ m) : ∀ {vs : List (Str × V)} {fs : List (Nat × D)}, Flds L ρ st H vs fs → fok nf fs = true → vs.lookup m = none
  | _, _, .nil, _ => rfl
  | _, _, .cons (f := g) (v := v) (d := x) h1 h2, k => by
    unfold fok at k
    rw [List.all_cons, Bool.and_eq_true, decide_eq_true_eq] at k
    rw [List.lookup_cons, show (m == L.fld g) = false from by rw [beq_eq_false_iff_ne]; exact fun z => hm g k.1 z.symm]
    exact Flds.no hm h2 k.2
theorem Flds.len : ∀ {vs : List (Str × V)} {fs : List (Nat × D)}, Flds L ρ st H vs fs → vs.length = fs.length
  | _, _, .nil => rfl
  | _, _, .cons _ h => by rw [List.length_cons, List.length_cons, Flds.len h]
end
section
variable {X : Cx} {L : Lk} {W : WX} {a b e o : Expr} {es : List Expr} {f g h : EM} {fa : AM} {pos p apos pos' : Pos}
/-! ### o.f -/
theorem de_fld {nf k : Nat} {ok : Nat → Bool} {m : Str} (hK : X.K = L.K) (hm : L.fld k = m) (hj : FldOk L nf k) (ho : ∀ c, ok c = true → Cls X.K (L.ca c) ∧ NoAttr X.K (L.ca c) m) (he : PE X o (wE L W f))
    (hb : attributeBase o m X.env (eval o X.env) = eval o X.env := by rfl) : PE X (.Attribute o m pos) (wE L W (xFld nf ok k f)) := by
  subst hm
  refine PE.imp (pe_fld he hb) ?_
  rintro σ H Q ⟨ρ, st, env, R, N, q⟩
  refine wE.mono ?_ (wE_bind R N q)
  rintro x H1 ⟨ρ1, st1, d1, e1, R1, N1, r1, q1⟩
  cases r1 with
  | @ref a n h1 =>
    simp only at q1
    cases hn : st1[n]? with
    | none => rw [hn] at q1; exact q1.elim
    | some ob =>
      rw [hn] at q1
      cases ob with
      | ins c fs =>
        simp only at q1
        by_cases hc : (ok c && fok nf fs) = true
        · rw [if_pos hc] at q1
          rw [Bool.and_eq_true] at hc
          obtain ⟨d, ed, q2⟩ := ofO_post q1
          obtain ⟨dx, vs, z1, z2⟩ := R1.ob n a _ h1 hn
          obtain ⟨v, y1, y2⟩ := z2.get hj hc.2 ed
          exact ⟨a, _, dx, vs, v, rfl, z1, (ho c hc.1).1, (ho c hc.1).2, y1, q2.here R1 v y2⟩
        · rw [if_neg hc] at q1; exact q1.elim
      | _ => exact q1.elim
  | _ => exact q1.elim
/-! ### o.f = e -/
theorem ds_fld {nf k : Nat} {ok : Nat → Bool} {m : Str} (hm : L.fld k = m) (hj : FldOk L nf k) (hc0 : ∀ c, ok c = true → Cls X.K (L.ca c) ∧ NoAttr X.K (L.ca c) m) (he : PE X e (wE L W h)) (ho : PE X o (wE L W f))
    (hs : swapsWith e (some (.Attribute o m pos')) pos.line X.env = pure false := by rfl) : PS X (.Assign [.Attribute o m pos'] e pos) (wS L W (sFld nf ok k f h)) := by
  subst hm
  refine PS.imp (ps_fld ho he hs) ?_
  rintro D σ H ⟨ρ, st, env, R, N, q⟩
  refine wE.mono ?_ (wE_bindS R N q)
  rintro v H1 ⟨ρ1, st1, d, e1, R1, N1, r1, q1⟩
  refine wE.mono ?_ (wE_bindS R1 N1 q1)
  rintro x H2 ⟨ρ2, st2, d2, e2, R2, N2, r2, q2⟩
  cases r2 with
  | @ref a n h1 =>
    simp only at q2
    cases hn : st2[n]? with
    | none => rw [hn] at q2; exact q2.elim
    | some ob =>
      rw [hn] at q2
      cases ob with
      | ins c fs =>
        simp only at q2
        by_cases hc : (ok c && fok nf fs && decide (fs.length < 900)) = true
        · rw [if_pos hc] at q2
          rw [Bool.and_eq_true, Bool.and_eq_true, decide_eq_true_eq] at hc
          obtain ⟨dx, vs, z1, z2⟩ := R2.ob n a _ h1 hn
          refine ⟨a, _, dx, vs, rfl, z1, (hc0 c hc.1.1).1, (hc0 c hc.1.1).2, by rw [z2.len]; omega, ?_⟩
          have ex := ext_set (o := .ins (L.ca c) dx (putF (L.fld k) v vs)) (ob := .ins c (fput k d fs)) R2 h1 hn id
          have rv := Rep.ext (e2.trans ex) _ _ r1
          exact q2 ρ2 _ σ ex (rel_set R2 h1 hn id ⟨dx, _, upd_same, (z2.ext ex).put hj rv hc.1.2⟩) (N2.ext ex)
        · rw [if_neg hc] at q2; exact q2.elim
      | _ => exact q2.elim
  | _ => exact q2.elim
/-! ### o.m(..) -/
/-- a method of a class, and what it promises -/
def MethAt (P : Program) (w : World) (K : PySem.W.Frag) (mg : Str → Option Value) (base : Heap) (L : Lk) (c : Calls) (k : Nat) (m : Str) (cl fi : Nat) : Prop :=
  ∃ (f : Addr) (fd : FuncData) (ps : List Str), Cls K (L.ca cl) ∧ Meth K (L.ca cl) m f ∧ FnOk P w K mg base (L2.CX P w) k f fd ps (spC L (c fi)) ∧ Binds K fd ps []
theorem de_meth {k nf : Nat} {c : Calls} {m : Str} {mt : Nat → Option Nat} {pl : Sem Bool} (tk : Takes X W) (hM : ∀ cl fi, mt cl = some fi → MethAt X.prog X.w X.K X.mg X.base L c k m cl fi) (hr : Room k X.A) (hf : ∀ g, g < nf → L.fld g ≠ m) (he : PE X o (wE L W f)) (ha : PA X (e :: es) (wA L W fa))
    (hst : starEach (e :: es) X.env = (false, eval e X.env) :: starEach es X.env := by rfl) (hpl : (backTo pos (starEach es X.env)).any (·.1) = false := by rfl)
    (ht : eval (.Call (.Attribute o m apos) (e :: es) [] pos) X.env = (do
      let ov ← eval o X.env
      standAt apos.atName
      let (f, first) ← holding [ov] (getMethod ov m pl)
      callWith pos f first (backTo pos (starEach (e :: es) X.env)) (backToKw pos (keywordEach [] X.env))) := by rfl) :
    PE X (.Call (.Attribute o m apos) (e :: es) [] pos) (wE L W (xMeth c mt nf f fa)) := by
  refine ⟨fun pins s σ H Q I q => ?_⟩
  obtain ⟨ρ, st, env, R, N, q⟩ := q
  refine PySem.W.methodCall_KW (pl := pl) (thn (he.run pins s σ H _ I (wE_bind R N q)) fun u s1 ⟨x, H1, I1, rx, ρ1, st1, d1, e1, R1, N1, r1, q1⟩ => ?_) ht
  cases r1 with
  | @ref a n h1 =>
    simp only at q1
    cases hn : st1[n]? with
    | none => rw [hn] at q1; exact q1.elim
    | some ob =>
      rw [hn] at q1
      cases ob with
      | ins cl fs =>
        simp only at q1
        cases hmt : mt cl with
        | none => rw [hmt] at q1; exact q1.elim
        | some fi =>
          rw [hmt] at q1
          simp only at q1
          by_cases hc : fok nf fs = true
          · rw [if_pos hc] at q1
            obtain ⟨fa', fd, ps, hC, hMe, F, hb⟩ := hM cl fi hmt
            obtain ⟨dx, vs, z1, z2⟩ := R1.ob n a _ h1 hn
            obtain rfl : u = Value.ref a := rx
            refine getmeth_ok I1 z1 hC hMe (z2.no hf hc) ?_
            refine PySem.W.callWith_K (first := [.ref a]) (h₀ := X.base) I.ok.mod.kin hMe.kp (thn (ha.run pos pins s1 σ H1 _ I1 (wA_bind R1 N1 q1)) fun us s2 ⟨ws, H2, I2, r, ρ2, st2, ds, e2, R2, N2, r2, q2⟩ => ⟨I2.kIn, ?_⟩) hst hpl
            refine run_fnS (us := .ref a :: us) (vs := .ref a :: ws) (E := WE W) F hr hb (passAt tk σ) I2 (.cons rfl r) ⟨ρ2, st2, .ref n :: ds, R2, .cons (.ref (e2.pre _ _ h1)) r2, ?_⟩
            exact PostR.wish (W := W) (σ := σ) q2 fun _ _ z => z
          · rw [if_neg hc] at q1; exact q1.elim
      | _ => exact q1.elim
  | _ => exact q1.elim
theorem de_meth0 {k nf : Nat} {c : Calls} {m : Str} {mt : Nat → Option Nat} {pl : Sem Bool} (tk : Takes X W) (hM : ∀ cl fi, mt cl = some fi → MethAt X.prog X.w X.K X.mg X.base L c k m cl fi) (hr : Room k X.A) (hf : ∀ g, g < nf → L.fld g ≠ m) (he : PE X o (wE L W f))
    (ht : eval (.Call (.Attribute o m apos) [] [] pos) X.env = (do
      let ov ← eval o X.env
      standAt apos.atName
      let (f, first) ← holding [ov] (getMethod ov m pl)
      callWith pos f first (backTo pos (starEach [] X.env)) (backToKw pos (keywordEach [] X.env))) := by rfl) :
    PE X (.Call (.Attribute o m apos) [] [] pos) (wE L W (xMeth c mt nf f aNil)) := by
  refine ⟨fun pins s σ H Q I q => ?_⟩
  obtain ⟨ρ, st, env, R, N, q⟩ := q
  refine PySem.W.methodCall_KW (pl := pl) (thn (he.run pins s σ H _ I (wE_bind R N q)) fun u s1 ⟨x, H1, I1, rx, ρ1, st1, d1, e1, R1, N1, r1, q1⟩ => ?_) ht
  cases r1 with
  | @ref a n h1 =>
    simp only at q1
    cases hn : st1[n]? with
    | none => rw [hn] at q1; exact q1.elim
    | some ob =>
      rw [hn] at q1
      cases ob with
      | ins cl fs =>
        simp only at q1
        cases hmt : mt cl with
        | none => rw [hmt] at q1; exact q1.elim
        | some fi =>
          rw [hmt] at q1
          simp only at q1
          by_cases hc : fok nf fs = true
          · rw [if_pos hc] at q1
            obtain ⟨fa', fd, ps, hC, hMe, F, hb⟩ := hM cl fi hmt
            obtain ⟨dx, vs, z1, z2⟩ := R1.ob n a _ h1 hn
            obtain rfl : u = Value.ref a := rx
            refine getmeth_ok I1 z1 hC hMe (z2.no hf hc) ?_
            refine PySem.W.callWith_K0 (first := [.ref a]) I1.kIn hMe.kp (run_fnS (us := [.ref a]) (vs := [.ref a]) (E := WE W) F hr hb (passAt tk σ) I1 (.cons rfl .nil) ⟨ρ1, st1, [.ref n], R1, .cons (.ref h1) .nil, ?_⟩)
            exact PostR.wish (W := W) (σ := σ) q1 fun _ _ z => z
          · rw [if_neg hc] at q1; exact q1.elim
      | _ => exact q1.elim
  | _ => exact q1.elim
/-! ### C(..) -/
/-- making one, in a body that may catch -/
theorem run_makeT {pins : List (Addr × Obj)} {σ : Sl} {H : Hp} {s : Shared} {Q : VK} {us : List Value} {vs : List V} {k : Nat} {C fa0 : Addr} {fd : FuncData} {ps : List Str} {sp : Sp} {E : Sl → XK} (M : Mk X.K C fa0)
    (F : FnOk X.prog X.w X.K X.mg X.base (L2.CX X.prog X.w) k fa0 fd ps sp) (hr : Room (k + 1) X.A) (hb : Binds X.K fd ps []) (hx : PassesAt (L2.CX X.prog X.w) X σ (E σ)) (I : L2.Inv X pins σ H s) (r : Vals vs us)
    (h : ∀ x dx, H x = none → H dx = none → dx ≠ x → sp (.ref x :: vs) (upd (upd H dx (.own x)) x (.ins C dx [])) (fun v H2 => v = .non ∧ Q (.ref x) H2) (E σ)) :
    wpAny (model X.prog X.w) X.A (call (.ref C) us) (EP X pins σ Q) X.xe s := by
  let p := s.heap.objs.size
  have hq := h (p + 1) p (I.hok.fresh (Nat.le_succ _)) (I.hok.fresh (Nat.le_refl _)) (Nat.ne_of_lt (Nat.lt_succ_self _))
  have J := L2.Inv.made (C := C) I
  have rr : Vals (V.ref (p + 1) :: vs) (Value.ref (p + 1) :: us) := .cons rfl r
  have hl : (Value.ref (p + 1) :: us).length = ps.length := by rw [← rr.length]; exact F.len _ _ _ _ hq
  have bd := hb _ (Value.ref (p + 1) :: us) J.kIn (by rw [List.append_nil]; exact hl)
  rw [List.append_nil] at bd
  have run := F.run _ X.stack _ _ ⟨Value.ref (p + 1) :: us, []⟩ _ _ _ (E σ) (hr.make C us []) (J.env0.make C us []) bd rr hq
  refine wpAny_call (make_map (f := fa0) I.kIn M.makes M.init (beq_iff_eq.mp M.fn) (codeAny_mono run fun r s' z => ?_))
  match r, z with
  | .error e, z => exact hx pins _ _ e s' J z
  | .ok (.ret u), z =>
    obtain ⟨v, H', J2, rv, ev, q3⟩ := J.after z
    subst ev
    exact ⟨rv, .ref (p + 1), H', J2, rfl, q3⟩
  | .ok .next, z => exact z.elim
  | .ok .brk, z => exact z.elim
  | .ok .cont, z => exact z.elim
/-- what the making of an instance joins to the store -/
theorem join_ins {ρ : Ly} {st : TH.St} {H : Hp} (R : Rel L ρ st H) {cl : Nat} {x dx : Addr} (hx : H x = none) (hd : H dx = none) (hne : dx ≠ x) :
    Ext ρ st H (ρ.add x) (st ++ [.ins cl []]) (upd (upd H dx (.own x)) x (.ins (L.ca cl) dx [])) ∧ Rel L (ρ.add x) (st ++ [.ins cl []]) (upd (upd H dx (.own x)) x (.ins (L.ca cl) dx [])) := by
  have R1 := rel_new (o := .own x) R hd
  have hx1 : upd H dx (.own x) x = none := by rw [upd_ne hne.symm]; exact hx
  exact ⟨(ext_new R hd).trans (ext_join R1 hx1), rel_join R1 hx1 ⟨dx, [], upd_same, .nil⟩⟩
theorem add_last {ρ : Ly} {st : TH.St} {H : Hp} (R : Rel L ρ st H) (x : Addr) : (ρ.add x).adr[st.length]? = some x := by
  show (ρ.adr ++ [x])[st.length]? = some x
  rw [← R.len, List.getElem?_append_right (Nat.le_refl _)]; simp
theorem de_make {k cl fi : Nat} {c : Calls} {fa0 : Addr} {fd : FuncData} {ps : List Str} {x : Str} (tk : Takes X W) (M : Mk X.K (L.ca cl) fa0) (F : FnOk X.prog X.w X.K X.mg X.base (L2.CX X.prog X.w) k fa0 fd ps (spC L (c fi))) (hr : Room (k + 1) X.A)
    (hm : X.mg x = some (.ref (L.ca cl))) (hb : Binds X.K fd ps []) (ha : PA X (e :: es) (wA L W fa)) (hg : Gl X x := by rfl) (hdb : (x == ("__debug__" : Str)) = false := by decide)
    (he : starEach (e :: es) X.env = (false, eval e X.env) :: starEach es X.env := by rfl) (hpl : (backTo pos (starEach es X.env)).any (·.1) = false := by rfl) :
    PE X (.Call (.Name x p) (e :: es) [] pos) (wE L W (xMake c cl fi fa)) := by
  refine ⟨fun pins s σ H Q I q => ?_⟩
  obtain ⟨ρ, st, env, R, N, q⟩ := q
  refine wpAny_Call_Name_kw (ld_glob I hg hm ?_ hdb)
  refine PySem.W.callWith_K (h₀ := X.base) I.ok.mod.kin M.kp (thn (ha.run pos pins s σ H _ I (wA_bind R N q)) fun us s1 ⟨vs, H1, I1, r, ρ1, st1, ds, e1, R1, N1, r1, q1⟩ => ⟨I1.kIn, ?_⟩) he hpl
  refine run_makeT (E := WE W) M F hr hb (passAt tk σ) I1 r fun y dx hy hd hne => ?_
  obtain ⟨ex, R2⟩ := join_ins (cl := cl) R1 hy hd hne
  refine ⟨ρ1.add y, _, .ref st1.length :: ds, R2, .cons (.ref (add_last R1 y)) (Reps.ext ex _ _ r1), ?_⟩
  refine PostR.wish (W := W) (σ := σ) (PostR.mono ?_ (PostR.bind (PostR.ext q1 ex))) fun _ _ z => z
  rintro d ρ' st' H' e' R' ⟨_, _, q2⟩ v rv
  cases d with
  | non =>
    cases rv
    exact ⟨rfl, q2.here R' _ (.ref (e'.pre _ _ (add_last R1 y)))⟩
  | _ => exact q2.elim
theorem de_make0 {k cl fi : Nat} {c : Calls} {fa0 : Addr} {fd : FuncData} {ps : List Str} {x : Str} (tk : Takes X W) (M : Mk X.K (L.ca cl) fa0) (F : FnOk X.prog X.w X.K X.mg X.base (L2.CX X.prog X.w) k fa0 fd ps (spC L (c fi))) (hr : Room (k + 1) X.A)
    (hm : X.mg x = some (.ref (L.ca cl))) (hb : Binds X.K fd ps []) (hg : Gl X x := by rfl) (hdb : (x == ("__debug__" : Str)) = false := by decide) :
    PE X (.Call (.Name x p) [] [] pos) (wE L W (xMake c cl fi aNil)) := by
  refine ⟨fun pins s σ H Q I q => ?_⟩
  obtain ⟨ρ1, st1, env, R1, N, q1⟩ := q
  refine wpAny_Call_Name_kw (ld_glob I hg hm ?_ hdb)
  refine PySem.W.callWith_K0 I.kIn M.kp (run_makeT (us := []) (vs := []) (E := WE W) M F hr hb (passAt tk σ) I .nil fun y dx hy hd hne => ?_)
  obtain ⟨ex, R2⟩ := join_ins (cl := cl) R1 hy hd hne
  refine ⟨ρ1.add y, _, [.ref st1.length], R2, .cons (.ref (add_last R1 y)) .nil, ?_⟩
  have q1 : PostR L W σ (fE L Q) ρ1 st1 H ((c fi [.ref st1.length] (st1 ++ [.ins cl []])).bind fun d st' => match d with
    | .non => .ok (.ref st1.length) st'
    | _ => .stuck) := q1
  refine PostR.wish (W := W) (σ := σ) (PostR.mono ?_ (PostR.bind (PostR.ext q1 ex))) fun _ _ z => z
  rintro d ρ' st' H' e' R' ⟨_, _, q2⟩ v rv
  cases d with
  | non =>
    cases rv
    exact ⟨rfl, q2.here R' _ (.ref (e'.pre _ _ (add_last R1 y)))⟩
  | _ => exact q2.elim
end
end TH
namespace TH
open PySem L2 TL
section
variable {X : Cx} {L : Lk} {W : WX} {e o : Expr} {f g : EM} {pos apos : Pos}
/-! ### xs.remove(y) -/
theorem ints_rep {ρ : Ly} {st : TH.St} {H : Hp} : ∀ {l : List D} {is : List Int} {xs : List V}, intsOf l = some is → Reps L ρ st H xs l → xs = is.map V.int
  | [], is, xs, e, r => by cases e; cases r; rfl
  | d :: l, is, xs, e, r => by
    cases d with
    | int i =>
      obtain ⟨is', h, rfl⟩ := Option.map_eq_some_iff.mp e
      cases r with
      | cons h1 h2 => cases h1; rw [ints_rep h h2]; rfl
    | _ => cases e
theorem rep_ints {ρ : Ly} {st : TH.St} {H : Hp} : ∀ is : List Int, Reps L ρ st H (is.map V.int) (is.map D.int)
  | [] => .nil
  | i :: is => .cons (.int i) (rep_ints is)
theorem erase_at (k : Int) : ∀ is : List Int, is.contains k = true → ∃ j, is[j]? = some k ∧ (∀ m : Nat, m < j → is[m]? ≠ some k) ∧ is.erase k = is.eraseIdx j
  | [], h => by cases h
  | i :: is, h => by
    by_cases e : i = k
    · subst e
      exact ⟨0, rfl, fun m hm => absurd hm (Nat.not_lt_zero _), by simp⟩
    · have h' : is.contains k = true := by
        rw [List.contains_cons, Bool.or_eq_true, beq_iff_eq] at h
        exact h.resolve_left fun z => e z.symm
      obtain ⟨j, h1, h2, h3⟩ := erase_at k is h'
      refine ⟨j + 1, h1, fun m hm => ?_, ?_⟩
      · cases m with
        | zero => simpa using e
        | succ m => exact h2 m (by omega)
      · rw [List.erase_cons_tail (by simpa using e), h3]; rfl
theorem de_rem (hK : X.K = L.K) (ho : PE X o (wE L W f)) (he : PE X e (wE L W g))
    (hbase : attributeBase o "remove" X.env (eval o X.env) = eval o X.env := by rfl) (hfew : ((backTo pos (starEach [e] X.env)).all (fun x => !x.1) && (backToKw pos (keywordEach [] X.env)).all (fun x => x.1.isSome)
      && decide (([e] : List Expr).length + ([] : List Keyword).length + (if ([] : List Keyword).isEmpty then 0 else 1) < 30)) = true := by rfl)
    (hline : (apos.endLine == pos.line) = true := by rfl) (hs : starEach [e] X.env = (false, eval e X.env) :: starEach [] X.env := by rfl) (hplain : (backTo pos (starEach [] X.env)).any (·.1) = false := by rfl) :
    PE X (.Call (.Attribute o "remove" apos) [e] [] pos) (wE L W (xRem f g)) := by
  refine PE.imp (L2.pe_bm PySem.F.plainAttrs_list PySem.F.slot_list_remove PySem.F.type_list_remove mt_remove ho (da_cons he da_nil hs) hbase hfew hline hs hplain) ?_
  rintro σ H Q ⟨ρ, st, env, R, N, q⟩
  refine wE.mono ?_ (wE_bind R N q)
  rintro x H1 ⟨ρ1, st1, d1, e1, R1, N1, r1, q1⟩
  by_cases ht : isLst d1 st1 = true
  · rw [if_pos ht] at q1
    refine ⟨by rw [hK]; exact lst_ty R1 r1 ht, ρ1, st1, env, R1, N1, ?_⟩
    have z := PostR.bind q1
    unfold aCons
    cases eg : g env st1 with
    | ok d2 st2 =>
      rw [eg] at z
      intro ρ' H' x' R' vs rs
      obtain ⟨e2, R2, q2⟩ := z ρ' H' x' R'
      obtain ⟨y, rfl, r2⟩ := reps1 rs
      cases r1 with
      | @ref a n h1 =>
        cases d2 with
        | int k =>
          cases r2
          simp only at q2
          cases hn : st2[n]? with
          | none => rw [hn] at q2; exact q2.elim
          | some ob =>
            rw [hn] at q2
            cases ob with
            | ml l =>
              simp only at q2
              cases hi : intsOf l with
              | none => rw [hi] at q2; exact q2.elim
              | some is =>
                rw [hi] at q2
                have ha := x'.pre _ _ h1
                obtain ⟨xs, z1, z2⟩ := R2.ob n a _ ha hn
                by_cases hl : is.contains k = true
                · simp only [if_pos hl] at q2
                  obtain ⟨j, j1, j2, j3⟩ := erase_at k is hl
                  rw [ints_rep hi z2] at z1
                  refine ⟨a, is, k, j, rfl, rfl, z1, j1, j2, ?_⟩
                  rw [← j3]
                  have ex := ext_set (o := .lst ((is.erase k).map V.int)) (ob := .ml ((is.erase k).map D.int)) R2 ha hn id
                  exact q2 ρ' _ ex (rel_set R2 ha hn id ⟨_, upd_same, rep_ints _⟩) _ .non
                · simp only [if_neg hl] at q2; exact q2.elim
            | _ => exact q2.elim
        | _ => exact q2.elim
      | _ => exact q2.elim
    | exn c st2 => rw [eg] at z; exact z
    | stuck => rw [eg] at z; exact z
  · rw [if_neg ht] at q1; exact q1.elim
end
section
variable {X : Cx} {L : Lk} {W : WX} {e o : Expr} {f g : EM} {pos apos : Pos}
/-! ### xs.extend(ys), xs.pop(i) -/
def rExtR (K : PySem.W.Frag) : V → List V → Hp → VK → Prop := fun x vs H Q => ∃ l b xs zs, x = .ref l ∧ vs = [.ref b] ∧ H l = some (.lst xs) ∧ (Rd H b (.lst zs) ∨ WrL K b zs) ∧ xs.length + zs.length ≤ sizeLine ∧ Q .non (upd H l (.lst (xs ++ zs)))
/-- the second list may have slots -/
theorem ext_any (l b : Addr) (xs ys : Array Value) (n n2 : Nat) (d2 : Option Addr) (sl2 : Array (Option Value)) (hlong : ¬(!xs.isEmpty && Builtin.List.listTooLong (xs.size + ys.size)) = true) (h1 : xs.size ≤ sizeLine) (h2 : xs.size + ys.size ≤ sizeLine + 1) :
    Meets (Builtin.«list.extend» ⟨[.ref l, .ref b], []⟩) (fun _ R s => s.heap.get? l = some { cls := .type "list", dict := none, data := .seq xs n, slots := #[] } ∧
      s.heap.get? b = some { cls := .type "list", dict := d2, data := .seq ys n2, slots := sl2 } ∧ R (.ok (.ret Value.none)) { s with heap := s.heap.update l (Obj.mapSeq fun x => x ++ ys), toks := s.toks }) :=
  .of_wp fun prog w A R s h => by
    obtain ⟨hp, gg, dd, tk, os⟩ := s
    obtain ⟨hl, hb, h⟩ := h
    have f1 := AutoSeq1.idx_int
    have f2 := AutoSeq1.sub_tuple_tuple
    have f3 := AutoSeq1.sub_list_list
    have f4 := AutoSeq1.sub_tuple_list
    have f5 := AutoSeq1.sub_list_tuple
    have hz : (xs ++ ys).size ≤ sizeLine + 1 := by rw [Array.size_append]; exact h2
    wp_walk using (wpAny_updateSeq hl rfl (hz := h1) (_hz' := hz)), wpAny_loadPart' hl, wpAny_loadPart' hb
    exact ⟨_, rfl, h⟩
theorem mt_extR : MtM X "list.extend" (rExtR X.K) := by
  intro pins s σ H x vs v us Q I rx rv h
  obtain ⟨l, b, xs, zs, rfl, rfl, hH, hB, hz, q⟩ := h
  cases rx
  obtain ⟨u, rfl, ru⟩ := rv.one
  cases ru
  obtain ⟨z, its, n, r, hl, e⟩ := I.lstM hH
  obtain ⟨its2, n2, d2, sl2, r2, hl2, e2⟩ : ∃ (its2 : List Value) (n2 : Nat) (d2 : Option Addr) (sl2 : Array (Option Value)), Vals zs its2 ∧ zs.length = its2.length ∧ s.heap.get? b = some { cls := .type "list", dict := d2, data := .seq its2.toArray n2, slots := sl2 } := by
    rcases hB with hB | ⟨ob, its2, n2, h1, h2, h3, h4, h5, h6⟩
    · obtain ⟨_, its2, n2, r2, e2⟩ := hB.ok I.hok
      exact ⟨its2, n2, _, _, r2, r2.length, e2⟩
    · have e2 := I.kIn _ _ h1
      obtain ⟨c, d, dt, sl⟩ := ob
      simp only at h2 h3 h4
      subst h2 h3 h4
      exact ⟨its2.toList, n2, _, _, h6, h6.length, by simpa using e2⟩
  have hsz : its.toArray.size + its2.toArray.size ≤ sizeLine := by rw [List.size_toArray, List.size_toArray]; omega
  have hlong : ¬ (!its.toArray.isEmpty && Builtin.List.listTooLong (its.toArray.size + its2.toArray.size)) = true := by
    rw [notLongL hsz, Bool.and_false]
    exact Bool.false_ne_true
  refine call_meets PySem.F.slot_list_extend ⟨_, e, rfl⟩ PySem.F.entry_list_extend (PySem.F.args_list_extend_2 _ _)
    (ext_any l b its.toArray its2.toArray n n2 d2 sl2 hlong (by rw [List.size_toArray]; omega) (by omega)) ⟨e, e2, ?_⟩
  exact ⟨.non, _, I.lset (its' := its ++ its2) hH e (by simp) (r.append r2) (by rw [List.length_append]; omega), rfl, q⟩
theorem asL_ext {ρ : Ly} {st : TH.St} {H : Hp} (R : Rel L ρ st H) {v : V} {d : D} {l : List D} (h : Rep L ρ st H v d) (e : asL st d = some l) : ∃ a xs, v = .ref a ∧ (Rd H a (.lst xs) ∨ WrL L.K a xs) ∧ Reps L ρ st H xs l := by
  obtain ⟨a, xs, h1, _, h3, h4⟩ := asL_rep R h e
  rcases h4 with h4 | h4 | h4
  · exact ⟨a, xs, h1, .inl (.of h4), h3⟩
  · exact ⟨a, xs, h1, .inl h4.1, h3⟩
  · exact ⟨a, xs, h1, .inr h4, h3⟩
theorem de_ext (hK : X.K = L.K) (ho : PE X o (wE L W f)) (he : PE X e (wE L W g))
    (hbase : attributeBase o "extend" X.env (eval o X.env) = eval o X.env := by rfl) (hfew : ((backTo pos (starEach [e] X.env)).all (fun x => !x.1) && (backToKw pos (keywordEach [] X.env)).all (fun x => x.1.isSome)
      && decide (([e] : List Expr).length + ([] : List Keyword).length + (if ([] : List Keyword).isEmpty then 0 else 1) < 30)) = true := by rfl)
    (hline : (apos.endLine == pos.line) = true := by rfl) (hs : starEach [e] X.env = (false, eval e X.env) :: starEach [] X.env := by rfl) (hplain : (backTo pos (starEach [] X.env)).any (·.1) = false := by rfl) :
    PE X (.Call (.Attribute o "extend" apos) [e] [] pos) (wE L W (xExt f g)) := by
  refine PE.imp (L2.pe_bm PySem.F.plainAttrs_list PySem.F.slot_list_extend PySem.F.type_list_extend mt_extR ho (da_cons he da_nil hs) hbase hfew hline hs hplain) ?_
  rintro σ H Q ⟨ρ, st, env, R, N, q⟩
  refine wE.mono ?_ (wE_bind R N q)
  rintro x H1 ⟨ρ1, st1, d1, e1, R1, N1, r1, q1⟩
  by_cases ht : isLst d1 st1 = true
  · rw [if_pos ht] at q1
    refine ⟨by rw [hK]; exact lst_ty R1 r1 ht, ρ1, st1, env, R1, N1, ?_⟩
    have z := PostR.bind q1
    unfold aCons
    cases eg : g env st1 with
    | ok d2 st2 =>
      rw [eg] at z
      intro ρ' H' x' R' vs rs
      obtain ⟨e2, R2, q2⟩ := z ρ' H' x' R'
      obtain ⟨y, rfl, r2⟩ := reps1 rs
      cases r1 with
      | @ref a n h1 =>
        simp only at q2
        cases hn : st2[n]? with
        | none => rw [hn] at q2; exact q2.elim
        | some ob =>
          rw [hn] at q2
          cases ob with
          | ml l =>
            simp only at q2
            cases hy : asL st2 d2 with
            | none => rw [hy] at q2; exact q2.elim
            | some zs =>
              rw [hy] at q2
              have ha := x'.pre _ _ h1
              obtain ⟨xs, z1, z2⟩ := R2.ob n a _ ha hn
              by_cases hl : l.length + zs.length ≤ LN
              · simp only [if_pos hl] at q2
                obtain ⟨b, ys, rfl, y1, y2⟩ := asL_ext R2 r2 hy
                refine ⟨a, b, xs, ys, rfl, rfl, z1, by rw [hK]; exact y1, by rw [z2.length, y2.length, ← LN_eq]; exact hl, ?_⟩
                have ex := ext_set (o := .lst (xs ++ ys)) (ob := .ml (l ++ zs)) R2 ha hn id
                exact q2 ρ' _ ex (rel_set R2 ha hn id ⟨xs ++ ys, upd_same, Reps.ext ex _ _ (z2.append y2)⟩) _ .non
              · simp only [if_neg hl] at q2; exact q2.elim
          | _ => exact q2.elim
      | _ => exact q2.elim
    | exn c st2 => rw [eg] at z; exact z
    | stuck => rw [eg] at z; exact z
  · rw [if_neg ht] at q1; exact q1.elim
theorem seq_ixN {n j : Nat} {i : Int} (h : TH.ixN n i = some j) (hn : n ≤ 16777216) : seqIndex? i n = some j ∧ -(2 ^ 63) ≤ i ∧ i < 2 ^ 63 := by
  unfold TH.ixN at h
  unfold seqIndex?
  by_cases h0 : 0 ≤ i
  · rw [if_pos h0] at h
    by_cases h1 : i < n
    · rw [if_pos h1] at h
      refine ⟨?_, by omega, by omega⟩
      have e : (if i < 0 then i + (n : Int) else i) = i := if_neg (by omega)
      simp only [e]
      rw [if_pos (by rw [Bool.and_eq_true, decide_eq_true_eq, decide_eq_true_eq]; omega)]
      exact h
    · rw [if_neg h1] at h; cases h
  · rw [if_neg h0] at h
    by_cases h1 : -(n : Int) ≤ i
    · rw [if_pos h1] at h
      refine ⟨?_, by omega, by omega⟩
      have e : (if i < 0 then i + (n : Int) else i) = i + n := if_pos (by omega)
      simp only [e]
      rw [if_pos (by rw [Bool.and_eq_true, decide_eq_true_eq, decide_eq_true_eq]; omega)]
      exact h
    · rw [if_neg h1] at h; cases h
theorem Reps.eraseIdx {ρ : Ly} {st : TH.St} {H : Hp} : ∀ {vs : List V} {ds : List D} (n : Nat), Reps L ρ st H vs ds → Reps L ρ st H (vs.eraseIdx n) (ds.eraseIdx n)
  | _, _, _, .nil => .nil
  | _, _, 0, .cons _ h2 => h2
  | _, _, n + 1, .cons h1 h2 => .cons h1 (Reps.eraseIdx n h2)
theorem de_popI (hK : X.K = L.K) (ho : PE X o (wE L W f)) (he : PE X e (wE L W g))
    (hbase : attributeBase o "pop" X.env (eval o X.env) = eval o X.env := by rfl) (hfew : ((backTo pos (starEach [e] X.env)).all (fun x => !x.1) && (backToKw pos (keywordEach [] X.env)).all (fun x => x.1.isSome)
      && decide (([e] : List Expr).length + ([] : List Keyword).length + (if ([] : List Keyword).isEmpty then 0 else 1) < 30)) = true := by rfl)
    (hline : (apos.endLine == pos.line) = true := by rfl) (hs : starEach [e] X.env = (false, eval e X.env) :: starEach [] X.env := by rfl) (hplain : (backTo pos (starEach [] X.env)).any (·.1) = false := by rfl) :
    PE X (.Call (.Attribute o "pop" apos) [e] [] pos) (wE L W (xPopI f g)) := by
  refine PE.imp (L2.pe_bm PySem.F.plainAttrs_list PySem.F.slot_list_pop PySem.F.type_list_pop mt_popAt ho (da_cons he da_nil hs) hbase hfew hline hs hplain) ?_
  rintro σ H Q ⟨ρ, st, env, R, N, q⟩
  refine wE.mono ?_ (wE_bind R N q)
  rintro x H1 ⟨ρ1, st1, d1, e1, R1, N1, r1, q1⟩
  by_cases ht : isLst d1 st1 = true
  · rw [if_pos ht] at q1
    refine ⟨by rw [hK]; exact lst_ty R1 r1 ht, ρ1, st1, env, R1, N1, ?_⟩
    have z := PostR.bind q1
    unfold aCons
    cases eg : g env st1 with
    | ok d2 st2 =>
      rw [eg] at z
      intro ρ' H' x' R' vs rs
      obtain ⟨e2, R2, q2⟩ := z ρ' H' x' R'
      obtain ⟨y, rfl, r2⟩ := reps1 rs
      cases r1 with
      | @ref a n h1 =>
        cases d2 with
        | int i =>
          cases r2
          simp only at q2
          cases hn : st2[n]? with
          | none => rw [hn] at q2; exact q2.elim
          | some ob =>
            rw [hn] at q2
            cases ob with
            | ml l =>
              simp only at q2
              cases hj : TH.ixN l.length i with
              | none => rw [hj] at q2; exact q2.elim
              | some j =>
                rw [hj] at q2
                simp only at q2
                by_cases hl : l.length ≤ LN
                · rw [if_pos hl] at q2
                  cases hd : l[j]? with
                  | none => rw [hd] at q2; exact q2.elim
                  | some d =>
                    rw [hd] at q2
                    have ha := x'.pre _ _ h1
                    obtain ⟨xs, z1, z2⟩ := R2.ob n a _ ha hn
                    obtain ⟨w, w1, w2⟩ := Reps.got z2 hd
                    obtain ⟨s1, s2, s3⟩ := seq_ixN hj hl
                    refine ⟨a, xs, i, j, w, rfl, rfl, z1, s2, s3, by rw [z2.length]; exact s1, w1, ?_⟩
                    have ex := ext_set (o := .lst (xs.eraseIdx j)) (ob := .ml (l.eraseIdx j)) R2 ha hn id
                    exact q2 ρ' _ ex (rel_set R2 ha hn id ⟨_, upd_same, Reps.ext ex _ _ (z2.eraseIdx j)⟩) _ (Rep.ext ex _ _ w2)
                · rw [if_neg hl] at q2; exact q2.elim
            | _ => exact q2.elim
        | _ => exact q2.elim
      | _ => exact q2.elim
    | exn c st2 => rw [eg] at z; exact z
    | stuck => rw [eg] at z; exact z
  · rw [if_neg ht] at q1; exact q1.elim
/-! ### str(i) -/
theorem tl_toString (n : Nat) : tl (toString ((n : Nat) : Int) : Str) = figs n := by
  have h : ((n : Nat) : Int).repr = String.ofList (Nat.toDigits 10 n) := rfl
  show (Str.ofString ((n : Int).repr)).cps.toList = _
  rw [h, Str.ofString_eq_toList]
  simp [figs]
theorem cr_strV : CallR X (.type "str") (VArgs L bStr) := by
  refine CallR.imp (CallR.or call_str_int SkE.call_str_str) ?_
  rintro xs H Q ⟨ρ, st, ds, d, R, r, e, q⟩
  unfold bStr at e
  split at e
  · obtain ⟨v, rfl, r1⟩ := reps1 r
    cases r1
    rename_i i
    split at e
    · rename_i hi
      cases e
      obtain ⟨n, rfl⟩ : ∃ n : Nat, i = n := ⟨i.toNat, by omega⟩
      refine .inl ⟨_, rfl, ?_, q ρ H _ Ext.refl R ?_⟩
      · rw [Int.natAbs_natCast]
        have hn : n < 2 ^ 1920 := Nat.lt_of_lt_of_le (show n < 2 ^ 64 by omega) (Nat.pow_le_pow_right (by omega) (by omega))
        by_cases h0 : n = 0
        · subst h0; decide
        · exact (Nat.log2_lt h0).mpr hn
      · rw [Int.toNat_natCast, ← tl_toString]; exact .str _
    · cases e
  · obtain ⟨v, rfl, r1⟩ := reps1 r
    cases r1; cases e
    exact .inr ⟨_, rfl, q ρ H _ Ext.refl R (.str _)⟩
  · cases e
end
/-- a statement in a class's body -/
def inCls (s : Stmt) (j : Nat) : Stmt := match s with
  | .ClassDef _ _ _ b .. => b.getD j (.Pass ⟨0, 0, 0, 0⟩)
  | _ => s
end TH
end
section
set_option Elab.async false
set_option linter.all false
set_option autoImplicit false
set_option maxRecDepth 100000
/-! TH16: dicts. -/
namespace TH
open PySem L2 TL
section
variable {L : Lk} {ρ ρ' : Ly} {st st' : TH.St} {H H' : Hp}
/-! ### keys -/
theorem keyD_eqv {d e : D} {k j : Key} (h : keyD d = some k) (h' : keyD e = some j) : d.eqv e = decide (k = j) := by
  cases d <;> simp [keyD] at h <;> cases e <;> simp [keyD] at h' <;> subst h <;> subst h' <;> simp [D.eqv]
  · rw [Bool.eq_iff_iff]; simp
  · rw [Bool.eq_iff_iff]; simp
theorem keysD_eqv : ∀ {l m : List D} {k j : List Key}, keysD l = some k → keysD m = some j → D.eqvL l m = decide (k = j)
  | [], [], _, _, h, h' => by simp [keysD] at h h'; subst h; subst h'; simp [D.eqvL]
  | [], e :: m, _, _, h, h' => by
    simp only [keysD] at h h'
    split at h' <;> cases h'
    cases h; simp [D.eqvL]
  | d :: l, [], _, _, h, h' => by
    simp only [keysD] at h h'
    split at h <;> cases h
    cases h'; simp [D.eqvL]
  | d :: l, e :: m, _, _, h, h' => by
    simp only [keysD] at h h'
    split at h <;> cases h
    split at h' <;> cases h'
    rename_i a1 a2 _ _ _ _ b1 b2
    simp only [D.eqvL]
    rw [keyD_eqv a1 b1, keysD_eqv a2 b2]
    rw [Bool.eq_iff_iff]
    simp
theorem tkeyD_eqv {d e : D} {k j : List Key} (h : tkeyD d = some k) (h' : tkeyD e = some j) : d.eqv e = decide (k = j) := by
  cases d <;> simp [tkeyD] at h
  cases e <;> simp [tkeyD] at h'
  simp only [D.eqv]
  exact keysD_eqv h h'
/-- a kind of keys -/
structure KeyK (κ : Type) [DecidableEq κ] (key : D → Option κ) : Prop where
  eqv : ∀ {d e : D} {k j : κ}, key d = some k → key e = some j → d.eqv e = decide (k = j)
theorem kkK : KeyK Key keyD := ⟨keyD_eqv⟩
theorem kkT : KeyK (List Key) tkeyD := ⟨tkeyD_eqv⟩
theorem flat_key {d : D} (h : flatKey d = true) : ∃ k, keyD d = some k := by
  cases d <;> simp [flatKey] at h <;> exact ⟨_, rfl⟩
theorem flats_key : ∀ {l : List D}, l.all flatKey = true → ∃ k, keysD l = some k
  | [], _ => ⟨[], rfl⟩
  | d :: l, h => by
    rw [List.all_cons, Bool.and_eq_true] at h
    obtain ⟨k, e⟩ := flat_key h.1
    obtain ⟨ks, es⟩ := flats_key h.2
    exact ⟨k :: ks, by simp only [keysD, e, es]⟩
theorem keyOk_f {d : D} (h : keyOk false d = true) : ∃ k, keyD d = some k := flat_key h
theorem keyOk_t {d : D} (h : keyOk true d = true) : ∃ k, tkeyD d = some k := by
  cases d <;> simp [keyOk] at h
  exact flats_key (by simpa using h)
/-- a key's value -/
theorem key_rep {v : V} {d : D} {k : Key} (r : Rep L ρ st H v d) (h : keyD d = some k) : v = kV k := by
  cases r <;> simp [keyD] at h <;> subst h
  · rfl
  · rename_i x
    show V.str x = V.str _
    congr 1
theorem keys_rep : ∀ {vs : List V} {ds : List D} {ks : List Key}, Reps L ρ st H vs ds → keysD ds = some ks → vs = ks.map kV
  | _, _, _, .nil, h => by simp [keysD] at h; subst h; rfl
  | _, _, _, .cons r t, h => by
    simp only [keysD] at h
    split at h <;> cases h
    rename_i a1 a2
    rw [key_rep r a1, keys_rep t a2]; rfl
theorem tkey_rep {v : V} {d : D} {k : List Key} (r : Rep L ρ st H v d) (h : tkeyD d = some k) : ∃ b, v = .ref b ∧ H b = some (.tup (k.map kV)) := by
  cases r <;> simp [tkeyD] at h
  rename_i a xs l h1 h2
  exact ⟨a, rfl, by rw [← keys_rep h2 h]; exact h1.1⟩
section
variable {κ : Type} [DecidableEq κ] {key : D → Option κ}
theorem KVs.look (K : KeyK κ key) {d : D} {k : κ} (hk : key d = some k) : ∀ {ks : List (κ × V)} {kvs : List (D × D)}, KVs key L ρ st H ks kvs →
    (∃ v x, valV ks k = some v ∧ dlook kvs d = some x ∧ Rep L ρ st H v x) ∨ (valV ks k = none ∧ dlook kvs d = none)
  | _, _, .nil => .inr ⟨rfl, rfl⟩
  | _, _, .cons (k := j) (v := v) (dk := dk) (d := x) h1 h2 h3 => by
    have e := K.eqv h1 hk
    by_cases q : j = k
    · refine .inl ⟨v, x, valV_pos q, ?_, h2⟩
      unfold dlook
      rw [List.find?_cons, show (dk.eqv d) = true by rw [e]; exact decide_eq_true q]
      rfl
    · have l : ∀ r, dlook ((dk, x) :: r) d = dlook r d := fun r => by
        unfold dlook
        rw [List.find?_cons, show (dk.eqv d) = false by rw [e]; exact decide_eq_false q]
      rw [valV_neg q, l]
      exact KVs.look K hk h3
theorem KVs.any (K : KeyK κ key) {d : D} {k : κ} (hk : key d = some k) : ∀ {ks : List (κ × V)} {kvs : List (D × D)}, KVs key L ρ st H ks kvs →
    (ks.any fun p => decide (p.1 = k)) = kvs.any fun p => p.1.eqv d
  | _, _, .nil => rfl
  | _, _, .cons h1 h2 h3 => by rw [List.any_cons, List.any_cons, KVs.any K hk h3, K.eqv h1 hk]
theorem KVs.repl (K : KeyK κ key) {d : D} {k : κ} (hk : key d = some k) {v : V} {x : D} (r : Rep L ρ st H v x) : ∀ {ks : List (κ × V)} {kvs : List (D × D)}, KVs key L ρ st H ks kvs →
    KVs key L ρ st H (ks.map fun kv => if kv.1 = k then (kv.1, v) else kv) (kvs.map fun p => if p.1.eqv d then (p.1, x) else p)
  | _, _, .nil => .nil
  | _, _, .cons (k := j) (dk := dk) h1 h2 h3 => by
    rw [List.map_cons, List.map_cons]
    have e := K.eqv h1 hk
    by_cases q : j = k
    · rw [if_pos q, if_pos (by rw [e]; exact decide_eq_true q)]
      exact .cons h1 r (KVs.repl K hk r h3)
    · rw [if_neg q, if_neg (by rw [e]; simpa using q)]
      exact .cons h1 h2 (KVs.repl K hk r h3)
theorem KVs.snoc {d : D} {k : κ} (hk : key d = some k) {v : V} {x : D} (r : Rep L ρ st H v x) : ∀ {ks : List (κ × V)} {kvs : List (D × D)}, KVs key L ρ st H ks kvs → KVs key L ρ st H (ks ++ [(k, v)]) (kvs ++ [(d, x)])
  | _, _, .nil => .cons hk r .nil
  | _, _, .cons h1 h2 h3 => .cons h1 h2 (KVs.snoc hk r h3)
theorem KVs.put (K : KeyK κ key) {d : D} {k : κ} (hk : key d = some k) {v : V} {x : D} (r : Rep L ρ st H v x) {ks : List (κ × V)} {kvs : List (D × D)} (h : KVs key L ρ st H ks kvs) : KVs key L ρ st H (putK ks k v) (dputL kvs d x) := by
  unfold putK dputL
  rw [h.any K hk]
  by_cases q : (kvs.any fun p => p.1.eqv d) = true
  · rw [if_pos q, if_pos q]; exact h.repl K hk r
  · rw [if_neg q, if_neg q]; exact h.snoc hk r
theorem KVs.drop (K : KeyK κ key) {d : D} {k : κ} (hk : key d = some k) : ∀ {ks : List (κ × V)} {kvs : List (D × D)}, KVs key L ρ st H ks kvs → KVs key L ρ st H (dropK ks k) (ddrop kvs d)
  | _, _, .nil => .nil
  | _, _, .cons (k := j) (dk := dk) h1 h2 h3 => by
    have e := K.eqv h1 hk
    unfold dropK ddrop
    rw [List.filter_cons, List.filter_cons]
    have ih := KVs.drop K hk h3
    unfold dropK ddrop at ih
    by_cases q : j = k
    · rw [if_neg (by simpa using q), if_neg (by rw [e]; simpa using q)]; exact ih
    · rw [if_pos (by simpa using q), if_pos (by rw [e]; simpa using q)]; exact .cons h1 h2 ih
end
/-! ### where a dict lies -/
theorem asK_rep (R : Rel L ρ st H) {v : V} {d : D} {t : Bool} {kvs : List (D × D)} (h : Rep L ρ st H v d) (e : asK st d = some (t, kvs)) :
    ∃ a, v = .ref a ∧ (t = false → ∃ ks, Rd H a (.dK ks) ∧ KVs keyD L ρ st H ks kvs) ∧ (t = true → ∃ ks, Rd H a (.dT ks) ∧ KVs tkeyD L ρ st H ks kvs) := by
  cases h with
  | @ref a n h1 =>
    simp only [asK] at e
    cases hs : st[n]? with
    | none => rw [hs] at e; simp at e
    | some o =>
      have q := R.ob n a o h1 hs
      rw [hs] at e
      cases o with
      | md t' kvs' =>
        cases e
        refine ⟨a, rfl, fun z => ?_, fun z => ?_⟩
        · subst z; obtain ⟨ks, q1, q2⟩ := q; exact ⟨ks, .inl q1, q2⟩
        · subst z; obtain ⟨ks, q1, q2⟩ := q; exact ⟨ks, .inl q1, q2⟩
      | mdl t' kvs' =>
        cases e
        refine ⟨a, rfl, fun z => ?_, fun z => ?_⟩
        · subst z; obtain ⟨o, ks, q1, q2⟩ := q; exact ⟨ks, .inr ⟨o, q1⟩, q2⟩
        · subst z; obtain ⟨o, ks, q1, q2⟩ := q; exact ⟨ks, .inr ⟨o, q1⟩, q2⟩
      | _ => simp at e
  | _ => simp [asK] at e
/-- what is looked up -/
theorem dget_rep (R : Rel L ρ st H) {v w : V} {d y : D} {t : Bool} {kvs : List (D × D)} (h : Rep L ρ st H v d) (e : asK st d = some (t, kvs)) (hy : Rep L ρ st H w y) (ok : keyOk t y = true) :
    ∃ a o, v = .ref a ∧ DGet H a w o ∧ ((∃ u x, o = some u ∧ dlook kvs y = some x ∧ Rep L ρ st H u x) ∨ (o = none ∧ dlook kvs y = none)) := by
  obtain ⟨a, rfl, hf, ht⟩ := asK_rep R h e
  cases t with
  | false =>
    obtain ⟨ks, q1, q2⟩ := hf rfl
    obtain ⟨k, hk⟩ := keyOk_f ok
    refine ⟨a, valV ks k, rfl, .inl ⟨ks, k, q1, key_rep hy hk, rfl⟩, ?_⟩
    rcases q2.look kkK hk with ⟨u, x, z1, z2, z3⟩ | ⟨z1, z2⟩
    · exact .inl ⟨u, x, z1, z2, z3⟩
    · exact .inr ⟨z1, z2⟩
  | true =>
    obtain ⟨ks, q1, q2⟩ := ht rfl
    obtain ⟨k, hk⟩ := keyOk_t ok
    obtain ⟨b, rfl, hb⟩ := tkey_rep hy hk
    refine ⟨a, valV ks k, rfl, .inr ⟨ks, k, b, q1, rfl, hb, rfl⟩, ?_⟩
    rcases q2.look kkT hk with ⟨u, x, z1, z2, z3⟩ | ⟨z1, z2⟩
    · exact .inl ⟨u, x, z1, z2, z3⟩
    · exact .inr ⟨z1, z2⟩
end
section
variable {X : Cx} {L : Lk} {W : WX} {a b e i o : Expr} {es : List Expr} {f g h : EM} {fa : AM} {pos p apos pos' : Pos}
/-! ### {} -/
theorem new_wE {t : Bool} {u : HO} {σ : Sl} {H : Hp} {Q : VK} (hu : ∀ (ρ : Ly) (st : St) (H : Hp) (p : Addr), ObAt L (ρ.add p) (st ++ [.md t []]) (upd H p u) p (.md t [])) (q : wE L W (xDNew t) σ H Q) : ∀ p, H p = none → Q (.ref p) (upd H p u) := by
  intro p hp
  obtain ⟨ρ, st, env, R, N, q⟩ := q
  exact q (ρ.add p) _ (ext_join R hp) (rel_join R hp (hu ρ st H p)) _ (.ref (add_last R p))
theorem de_dnewK : PE X (.Dict [] [] pos) (wE L W (xDNew false)) := PE.imp pe_dnewK fun σ H Q q => new_wE (t := false) (fun ρ st H p => ⟨[], upd_same, .nil⟩) q
theorem de_dnewT : PE X (.Dict [] [] pos) (wE L W (xDNew true)) := PE.imp pe_dnewT fun σ H Q q => new_wE (t := true) (fun ρ st H p => ⟨[], upd_same, .nil⟩) q
/-! ### d[k], k in d -/
theorem noSl {i : Expr} (h : ∀ ov iv, subscripted i false ov iv = operate [ov, iv] (getItem ov iv)) : NoSl i := h
theorem de_dget (hu : X.A.units + 1 < cLine) (ho : PE X o (wE L W f)) (hi : PE X i (wE L W g)) (hs : NoSl i := by exact fun _ _ => rfl) : PE X (.Subscript o i pos) (wE L W (xDGet f g)) := by
  refine PE.imp (pe_dget hu ho hi hs) ?_
  rintro σ H Q ⟨ρ, st, env, R, N, q⟩
  refine wE.mono ?_ (wE_bind R N q)
  rintro x H1 ⟨ρ1, st1, d1, e1, R1, N1, r1, q1⟩
  refine wE.mono ?_ (wE_bind R1 N1 q1)
  rintro y H2 ⟨ρ2, st2, d2, e2, R2, N2, r2, q2⟩
  cases ek : asK st2 d1 with
  | none => rw [ek] at q2; exact q2.elim
  | some tk =>
    obtain ⟨t, kvs⟩ := tk
    rw [ek] at q2
    simp only at q2
    by_cases hk : keyOk t d2 = true
    · rw [if_pos hk] at q2
      obtain ⟨a, o, rfl, z1, z2⟩ := dget_rep R2 (Rep.ext e2 _ _ r1) ek r2 hk
      rcases z2 with ⟨u, x, rfl, z2, z3⟩ | ⟨rfl, z2⟩
      · rw [z2] at q2
        exact ⟨a, u, rfl, z1, q2.here R2 _ z3⟩
      · rw [z2] at q2; exact q2.elim
    · rw [if_neg hk] at q2; exact q2.elim
theorem din_wE {neg : Bool} {σ : Sl} {H : Hp} {Q : VK} {m : EM} (hm : m = fun env st => (g env st).bind fun y st => (f env st).bind fun x st => match asK st x with
    | some (t, kvs) => if keyOk t y then .ok (.bl ((dlook kvs y).isSome ^^ neg)) st else .stuck
    | none => .stuck) (q : wE L W m σ H Q) :
    wE L W g σ H fun y H1 => wE L W f σ H1 fun x H2 => ∃ a o, x = .ref a ∧ DGet H2 a y o ∧ Q (.bl (o.isSome ^^ neg)) H2 := by
  subst hm
  obtain ⟨ρ, st, env, R, N, q⟩ := q
  refine wE.mono ?_ (wE_bind R N q)
  rintro y H1 ⟨ρ1, st1, d1, e1, R1, N1, r1, q1⟩
  refine wE.mono ?_ (wE_bind R1 N1 q1)
  rintro x H2 ⟨ρ2, st2, d2, e2, R2, N2, r2, q2⟩
  cases ek : asK st2 d2 with
  | none => rw [ek] at q2; exact q2.elim
  | some tk =>
    obtain ⟨t, kvs⟩ := tk
    rw [ek] at q2
    simp only at q2
    by_cases hk : keyOk t d1 = true
    · rw [if_pos hk] at q2
      obtain ⟨a, o, rfl, z1, z2⟩ := dget_rep R2 r2 ek (Rep.ext e2 _ _ r1) hk
      refine ⟨a, o, rfl, z1, ?_⟩
      rcases z2 with ⟨u, x, rfl, z2, z3⟩ | ⟨rfl, z2⟩
      · rw [z2] at q2; exact q2.here R2 _ (.bl _)
      · rw [z2] at q2; exact q2.here R2 _ (.bl _)
    · rw [if_neg hk] at q2; exact q2.elim
theorem din_eq : (xDIn g f : EM) = fun env st => (g env st).bind fun y st => (f env st).bind fun x st => match asK st x with
    | some (t, kvs) => if keyOk t y then .ok (.bl ((dlook kvs y).isSome ^^ false)) st else .stuck
    | none => .stuck := by
  funext env st
  unfold xDIn
  congr 1; funext y st; congr 1; funext x st
  cases asK st x with
  | none => rfl
  | some p => simp only [Bool.xor_false]
theorem dnotin_eq : (xDNotIn g f : EM) = fun env st => (g env st).bind fun y st => (f env st).bind fun x st => match asK st x with
    | some (t, kvs) => if keyOk t y then .ok (.bl ((dlook kvs y).isSome ^^ true)) st else .stuck
    | none => .stuck := by
  funext env st
  unfold xDNotIn
  congr 1; funext y st; congr 1; funext x st
  cases asK st x with
  | none => rfl
  | some p => simp only [Bool.xor_true]
theorem de_dIn (hu : X.A.units + 1 < cLine) (hi : PE X i (wE L W g)) (ho : PE X o (wE L W f)) (hm : behindInMarks .In o = false := by first | exact nobehind _ (by decide) (by decide) | rfl | with_unfolding_all rfl) : PE X (.Compare i [.In] [o] pos) (wE L W (xDIn g f)) := by
  refine PE.imp (pe_cmp (pc_din hu hi ho) hm) fun σ H Q q => ?_
  have z := din_wE (neg := false) din_eq q
  simp only [Bool.xor_false] at z
  exact z
theorem de_dNotIn (hu : X.A.units + 1 < cLine) (hi : PE X i (wE L W g)) (ho : PE X o (wE L W f)) (hm : behindInMarks .NotIn o = false := by first | exact nobehind _ (by decide) (by decide) | rfl | with_unfolding_all rfl) : PE X (.Compare i [.NotIn] [o] pos) (wE L W (xDNotIn g f)) := by
  refine PE.imp (pe_cmp (pc_dnotin hu hi ho) hm) fun σ H Q q => ?_
  have z := din_wE (neg := true) dnotin_eq q
  simp only [Bool.xor_true] at z
  exact z
theorem wT_blk {m : EM} {σ : Sl} {H : Hp} {Q : Bool → Hp → Prop} (hb : ∀ env st d st', m env st = .ok d st' → ∃ b, d = .bl b) (q : wT L W m σ H Q) : wE L W m σ H fun v H' => ∃ b, v = .bl b ∧ Q b H' := by
  obtain ⟨ρ, st, env, R, N, q⟩ := q
  refine ⟨ρ, st, env, R, N, ?_⟩
  cases em : m env st with
  | ok d st' =>
    rw [em] at q
    obtain ⟨b, rfl⟩ := hb _ _ _ _ em
    intro ρ' H' e' R' v rv
    obtain ⟨b', eb, qb⟩ := q ρ' H' e' R'
    cases rv
    simp only [truthy, Option.some.injEq] at eb
    subst eb
    exact ⟨_, rfl, qb⟩
  | exn c st' => rw [em] at q; exact q
  | stuck => rw [em] at q; exact q
theorem din_bl {neg : Bool} {m : EM} (hm : m = fun env st => (g env st).bind fun y st => (f env st).bind fun x st => match asK st x with
    | some (t, kvs) => if keyOk t y then .ok (.bl ((dlook kvs y).isSome ^^ neg)) st else .stuck
    | none => .stuck) : ∀ env st d st', m env st = .ok d st' → ∃ b, d = .bl b := by
  subst hm
  intro env st d st' e
  cases eg : g env st with
  | ok y st1 =>
    simp only [eg, RR.bind] at e
    cases ef : f env st1 with
    | ok x st2 =>
      simp only [ef] at e
      split at e
      · split at e
        · cases e; exact ⟨_, rfl⟩
        · cases e
      · cases e
    | exn c st2 => simp only [ef] at e; cases e
    | stuck => simp only [ef] at e; cases e
  | exn c st2 => simp only [eg, RR.bind] at e; cases e
  | stuck => simp only [eg, RR.bind] at e; cases e
theorem dt_dIn (hu : X.A.units + 1 < cLine) (hi : PE X i (wE L W g)) (ho : PE X o (wE L W f)) (hm : behindInMarks .In o = false := by first | exact nobehind _ (by decide) (by decide) | rfl | with_unfolding_all rfl) : PT X (.Compare i [.In] [o] pos) (wT L W (xDIn g f)) := by
  refine PT.imp (pt_cmp (pc_din hu hi ho) hm) fun σ H Q q => ?_
  have z := din_wE (neg := false) din_eq (wT_blk (din_bl din_eq) q)
  simp only [Bool.xor_false] at z
  exact z
theorem dt_dNotIn (hu : X.A.units + 1 < cLine) (hi : PE X i (wE L W g)) (ho : PE X o (wE L W f)) (hm : behindInMarks .NotIn o = false := by first | exact nobehind _ (by decide) (by decide) | rfl | with_unfolding_all rfl) : PT X (.Compare i [.NotIn] [o] pos) (wT L W (xDNotIn g f)) := by
  refine PT.imp (pt_cmp (pc_dnotin hu hi ho) hm) fun σ H Q q => ?_
  have z := din_wE (neg := true) dnotin_eq (wT_blk (din_bl dnotin_eq) q)
  simp only [Bool.xor_true] at z
  exact z
/-! ### d[k] = e -/
theorem ds_dput (hu : X.A.units + 1 < cLine) (he : PE X e (wE L W h)) (ho : PE X o (wE L W f)) (hi : PE X i (wE L W g)) (hs : swapsWith e (some (.Subscript o i pos')) pos.line X.env = pure false := by rfl) :
    PS X (.Assign [.Subscript o i pos'] e pos) (wS L W (sDPut f g h)) := by
  refine PS.imp (ps_dput hu ho hi he hs) ?_
  rintro D σ H ⟨ρ, st, env, R, N, q⟩
  refine wE.mono ?_ (wE_bindS R N q)
  rintro v H1 ⟨ρ1, st1, d1, e1, R1, N1, r1, q1⟩
  refine wE.mono ?_ (wE_bindS R1 N1 q1)
  rintro x H2 ⟨ρ2, st2, d2, e2, R2, N2, r2, q2⟩
  refine wE.mono ?_ (wE_bindS R2 N2 q2)
  rintro y H3 ⟨ρ3, st3, d3, e3, R3, N3, r3, q3⟩
  have r1 := Rep.ext (e2.trans e3) _ _ r1
  cases r2 with
  | @ref a n h1 =>
    have h1 := e3.pre _ _ h1
    simp only at q3
    cases hn : st3[n]? with
    | none => rw [hn] at q3; exact q3.elim
    | some ob =>
      rw [hn] at q3
      cases ob with
      | md t kvs =>
        simp only at q3
        by_cases hc : keyOk t d3 = true ∧ kvs.length < LN
        · rw [if_pos hc] at q3
          obtain ⟨hk, hl⟩ := hc
          have z := R3.ob n a _ h1 hn
          cases t with
          | false =>
            obtain ⟨ks, z1, z2⟩ := z
            obtain ⟨k, ek⟩ := keyOk_f hk
            obtain rfl := key_rep r3 ek
            have ex := ext_set (o := .dK (putK ks k v)) (ob := .md false (dputL kvs d3 d1)) R3 h1 hn id
            refine ⟨a, upd H3 a (.dK (putK ks k v)), rfl, .inl ⟨ks, k, z1, rfl, by rw [z2.length, ← LN_eq]; exact hl, rfl⟩, ?_⟩
            exact q3 ρ3 _ σ ex (rel_set R3 h1 hn id ⟨_, upd_same, (z2.put kkK ek r1).ext ex⟩) (N3.ext ex)
          | true =>
            obtain ⟨ks, z1, z2⟩ := z
            obtain ⟨k, ek⟩ := keyOk_t hk
            obtain ⟨b, rfl, hb⟩ := tkey_rep r3 ek
            have ex := ext_set (o := .dT (putK ks k v)) (ob := .md true (dputL kvs d3 d1)) R3 h1 hn id
            refine ⟨a, upd H3 a (.dT (putK ks k v)), rfl, .inr ⟨ks, k, b, z1, rfl, hb, by rw [z2.length, ← LN_eq]; exact hl, rfl⟩, ?_⟩
            exact q3 ρ3 _ σ ex (rel_set R3 h1 hn id ⟨_, upd_same, (z2.put kkT ek r1).ext ex⟩) (N3.ext ex)
        · rw [if_neg hc] at q3; exact q3.elim
      | _ => exact q3.elim
  | _ => exact q3.elim
end
end TH
end
section
end
section
set_option linter.all false
/-! TP: the program as combinators, its defs numbered once for all laws (printed by gen2.py). -/
namespace TH.PG
open TH
/-- what a law's text has of the program: classes by fields, methods, caught errors, isinstance -/
structure G where
  ok : Nat → Nat → Bool
  mt : Nat → Nat → Option Nat
  tk : Nat → Nat → Option Bool
  ei : Nat → Nat → Option Bool
def B_is_level (G : G) (c : Calls) : SM := sSeq (sIf (xBin oGt (xB bLen (aCons (xVar 0) (aNil))) (xC (.int 12))) (sRet (xC (.bl false))) (sSkip))
    (sRet (xB bAll (aCons (xLst (lComp (iVal (xVar 0)) (.name 1) none (xAnd (xChain oLe oLt (xC (.int 32)) (xB bOrd (aCons (xVar 1) (aNil))) (xC (.int 127))) (xAnd (xBin oNe (xB bOrd (aCons (xVar 1) (aNil))) (xC (.int 37))) (xBin oNotIn (xVar 1) (xC (.str [43, 35, 47]))))) [1])) (aNil))))
def B_look_name (G : G) (c : Calls) : SM := sSeq (sSet 1 (xLst (lSplit (xVar 0) (xC (.str [47])))))
    (sIf (xOr (xBin oEq (xVar 0) (xC (.str []))) (xOr (xBin oGt (xB bLen (aCons (xVar 1) (aNil))) (xC (.int 8))) (xNot (xB bAll (aCons (xLst (lComp (iVal (xVar 1)) (.name 2) none (xCall c 0 (aCons (xVar 2) (aNil))) [2])) (aNil)))))) (sRaise 1) (sSkip))
def B_look_wish (G : G) (c : Calls) : SM := sSeq (sSet 1 (xLst (lSplit (xVar 0) (xC (.str [47])))))
    (sSeq (sSet 2 (xIf (xBin oEq (xBin oIx (xVar 1) (xNeg (xC (.int 1)))) (xC (.str [35]))) (xLst (lSl (xVar 1) none (some (xNeg (xC (.int 1)))))) (xVar 1)))
    (sIf (xOr (xBin oEq (xVar 0) (xC (.str []))) (xOr (xBin oGt (xB bLen (aCons (xVar 1) (aNil))) (xC (.int 8))) (xNot (xB bAll (aCons (xLst (lComp (iVal (xVar 2)) (.name 3) none (xOr (xBin oEq (xVar 3) (xC (.str [43]))) (xCall c 0 (aCons (xVar 3) (aNil)))) [3])) (aNil)))))) (sRaise 1) (sSkip)))
def B_look_hearer (G : G) (c : Calls) : SM := sIf (xOr (xNot (xChain oLe oLe (xC (.int 1)) (xB bLen (aCons (xVar 0) (aNil))) (xC (.int 12)))) (xNot (xB bAll (aCons (xLst (lComp (iVal (xVar 0)) (.name 1) none (xBin oIn (xVar 1) (xC (.str [97, 98, 99, 100, 101, 102, 103, 104, 105, 106, 107, 108, 109, 110, 111, 112, 113, 114, 115, 116, 117, 118, 119, 120, 121, 122, 48, 49, 50, 51, 52, 53, 54, 55, 56, 57]))) [1])) (aNil))))) (sRaise 1) (sSkip)
def B_look_grade (G : G) (c : Calls) : SM := sIf (xNot (xChain oLe oLe (xC (.int 0)) (xVar 0) (xC (.int 2)))) (sRaise 1) (sSkip)
def B_is_wide (G : G) (c : Calls) : SM := sRet (xBin oIn (xVar 0) (xTup (aCons (xC (.str [43])) (aCons (xC (.str [35])) (aNil)))))
def B_fits_levels (G : G) (c : Calls) : SM := sSeq (sIf (xBin oEq (xLst (lSl (xVar 0) none (some (xC (.int 1))))) (xLst (lLst (aCons (xC (.str [35])) (aNil))))) (sRet (xC (.bl true))) (sSkip))
    (sSeq (sIf (xOr (xNot (xVar 0)) (xNot (xVar 1))) (sRet (xAnd (xNot (xVar 0)) (xNot (xVar 1)))) (sSkip))
    (sRet (xAnd (xBin oIn (xBin oIx (xVar 0) (xC (.int 0))) (xTup (aCons (xC (.str [43])) (aCons (xBin oIx (xVar 1) (xC (.int 0))) (aNil))))) (xCall c 6 (aCons (xLst (lSl (xVar 0) (some (xC (.int 1))) none)) (aCons (xLst (lSl (xVar 1) (some (xC (.int 1))) none)) (aNil)))))))
def B_fits (G : G) (c : Calls) : SM := sSeq (sExpr (xCall c 2 (aCons (xVar 0) (aNil))))
    (sSeq (sExpr (xCall c 1 (aCons (xVar 1) (aNil))))
    (sSeq (sSet 2 (xLst (lSplit (xVar 0) (xC (.str [47])))))
    (sRet (xAnd (xNot (xAnd (xCall c 5 (aCons (xBin oIx (xVar 2) (xC (.int 0))) (aNil))) (xBm isStr oStarts (xVar 1) (xC (.str [36]))))) (xCall c 6 (aCons (xVar 2) (aCons (xLst (lSplit (xVar 1) (xC (.str [47])))) (aNil))))))))
def B_covers_levels (G : G) (c : Calls) : SM := sSeq (sIf (xBin oEq (xLst (lSl (xVar 0) none (some (xC (.int 1))))) (xLst (lLst (aCons (xC (.str [35])) (aNil))))) (sRet (xC (.bl true))) (sSkip))
    (sSeq (sIf (xOr (xNot (xVar 0)) (xNot (xVar 1))) (sRet (xAnd (xNot (xVar 0)) (xNot (xVar 1)))) (sSkip))
    (sSeq (sIf (xBin oEq (xBin oIx (xVar 1) (xC (.int 0))) (xC (.str [35]))) (sRet (xC (.bl false))) (sSkip))
    (sRet (xAnd (xBin oIn (xBin oIx (xVar 0) (xC (.int 0))) (xTup (aCons (xC (.str [43])) (aCons (xBin oIx (xVar 1) (xC (.int 0))) (aNil))))) (xCall c 8 (aCons (xLst (lSl (xVar 0) (some (xC (.int 1))) none)) (aCons (xLst (lSl (xVar 1) (some (xC (.int 1))) none)) (aNil))))))))
def B_covers (G : G) (c : Calls) : SM := sSeq (sExpr (xCall c 2 (aCons (xVar 0) (aNil))))
    (sSeq (sExpr (xCall c 2 (aCons (xVar 1) (aNil))))
    (sSeq (sSet 2 (xLst (lSplit (xVar 0) (xC (.str [47])))))
    (sSeq (sSet 3 (xLst (lSplit (xVar 1) (xC (.str [47])))))
    (sSeq (sIf (xBin oIn (xVar 3) (xTup (aCons (xLst (lLst (aCons (xC (.str [35])) (aNil)))) (aCons (xLst (lLst (aCons (xC (.str [])) (aCons (xC (.str [35])) (aNil))))) (aNil))))) (sSet 3 (xLst (lCat (xLst (lSl (xVar 3) none (some (xNeg (xC (.int 1)))))) (xLst (lLst (aCons (xC (.str [43])) (aCons (xC (.str [35])) (aNil)))))))) (sSkip))
    (sRet (xAnd (xNot (xAnd (xCall c 5 (aCons (xBin oIx (xVar 2) (xC (.int 0))) (aNil))) (xBm isStr oStarts (xVar 1) (xC (.str [36]))))) (xCall c 8 (aCons (xVar 2) (aCons (xVar 3) (aNil))))))))))
def B_plain_levels (G : G) (c : Calls) : SM := sRet (xLst (lComp (iVal (xVar 0)) (.name 1) (some (xBin oNe (xVar 1) (xC (.str [35])))) (xIf (xBin oEq (xVar 1) (xC (.str [43]))) (xC (.str [97])) (xVar 1)) [1]))
def B_both_levels (G : G) (c : Calls) : SM := sSeq (sIf (xBin oEq (xLst (lSl (xVar 0) none (some (xC (.int 1))))) (xLst (lLst (aCons (xC (.str [35])) (aNil))))) (sRet (xCall c 10 (aCons (xVar 1) (aNil)))) (sSkip))
    (sSeq (sIf (xBin oEq (xLst (lSl (xVar 1) none (some (xC (.int 1))))) (xLst (lLst (aCons (xC (.str [35])) (aNil))))) (sRet (xCall c 10 (aCons (xVar 0) (aNil)))) (sSkip))
    (sSeq (sIf (xOr (xNot (xVar 0)) (xNot (xVar 1))) (sRet (xIf (xOr (xVar 0) (xVar 1)) (xC .non) (xLst (lLst (aNil))))) (sSkip))
    (sSeq (sIf (xAnd (xBin oNe (xBin oIx (xVar 0) (xC (.int 0))) (xBin oIx (xVar 1) (xC (.int 0)))) (xBin oNotIn (xC (.str [43])) (xTup (aCons (xBin oIx (xVar 0) (xC (.int 0))) (aCons (xBin oIx (xVar 1) (xC (.int 0))) (aNil)))))) (sRet (xC .non)) (sSkip))
    (sSeq (sSet 2 (xIf (xBin oEq (xBin oIx (xVar 0) (xC (.int 0))) (xC (.str [43]))) (xBin oIx (xVar 1) (xC (.int 0))) (xBin oIx (xVar 0) (xC (.int 0)))))
    (sSeq (sSet 3 (xCall c 11 (aCons (xLst (lSl (xVar 0) (some (xC (.int 1))) none)) (aCons (xLst (lSl (xVar 1) (some (xC (.int 1))) none)) (aNil)))))
    (sRet (xIf (xBin oIs (xVar 3) (xC .non)) (xC .non) (xLst (lCat (xCall c 10 (aCons (xLst (lLst (aCons (xVar 2) (aNil)))) (aNil))) (xVar 3))))))))))
def B_meeting (G : G) (c : Calls) : SM := sSeq (sExpr (xCall c 2 (aCons (xVar 0) (aNil))))
    (sSeq (sExpr (xCall c 2 (aCons (xVar 1) (aNil))))
    (sSeq (sSet 2 (xLst (lSplit (xVar 0) (xC (.str [47])))))
    (sSeq (sSet 3 (xLst (lSplit (xVar 1) (xC (.str [47])))))
    (sSeq (sIf (xOr (xAnd (xCall c 5 (aCons (xBin oIx (xVar 2) (xC (.int 0))) (aNil))) (xBm isStr oStarts (xVar 1) (xC (.str [36])))) (xAnd (xCall c 5 (aCons (xBin oIx (xVar 3) (xC (.int 0))) (aNil))) (xBm isStr oStarts (xVar 0) (xC (.str [36]))))) (sRet (xC .non)) (sSkip))
    (sSeq (sSet 4 (xCall c 11 (aCons (xVar 2) (aCons (xVar 3) (aNil)))))
    (sSeq (sIf (xBin oEq (xVar 4) (xLst (lLst (aNil)))) (sRet (xC (.str [97]))) (sSkip))
    (sSeq (sIf (xBin oEq (xVar 4) (xLst (lLst (aCons (xC (.str [])) (aNil))))) (sRet (xIf (xAnd (xCall c 7 (aCons (xVar 0) (aCons (xC (.str [47, 97])) (aNil)))) (xCall c 7 (aCons (xVar 1) (aCons (xC (.str [47, 97])) (aNil))))) (xC (.str [47, 97])) (xC .non))) (sSkip))
    (sRet (xIf (xBin oIs (xVar 4) (xC .non)) (xC .non) (xBm isStr oJoin (xC (.str [47])) (xVar 4)))))))))))
def B_Node___init__ (G : G) (c : Calls) : SM := sSeq (sFld 32 (G.ok 0) 0 (xVar 0) (xDNew false))
    (sFld 32 (G.ok 1) 1 (xVar 0) (xDNew false))
def B_Book___init__ (G : G) (c : Calls) : SM := sSeq (sFld 32 (G.ok 2) 2 (xVar 0) (xMake c 10 13 aNil))
    (sFld 32 (G.ok 3) 3 (xVar 0) (xDNew true))
def B_Book_node (G : G) (c : Calls) : SM := sSeq (sSet 2 (xFld 32 (G.ok 2) 2 (xVar 0)))
    (sSeq (sFor (iVal (xLst (lSplit (xVar 1) (xC (.str [47]))))) (.name 3) (sSeq (sIf (xDNotIn (xVar 3) (xFld 32 (G.ok 0) 0 (xVar 2))) (sDPut (xFld 32 (G.ok 0) 0 (xVar 2)) (xVar 3) (xMake c 10 13 aNil)) (sSkip))
    (sSet 2 (xDGet (xFld 32 (G.ok 0) 0 (xVar 2)) (xVar 3)))))
    (sRet (xVar 2)))
def B_Book_put (G : G) (c : Calls) : SM := sSeq (sExpr (xCall c 3 (aCons (xVar 1) (aNil))))
    (sSeq (sExpr (xCall c 2 (aCons (xVar 2) (aNil))))
    (sSeq (sExpr (xCall c 4 (aCons (xVar 3) (aNil))))
    (sSeq (sSet 4 (xDNotIn (xTup (aCons (xVar 1) (aCons (xVar 2) (aNil)))) (xFld 32 (G.ok 3) 3 (xVar 0))))
    (sSeq (sDPut (xFld 32 (G.ok 3) 3 (xVar 0)) (xTup (aCons (xVar 1) (aCons (xVar 2) (aNil)))) (xVar 3))
    (sSeq (sDPut (xFld 32 (G.ok 1) 1 (xMeth c (G.mt 26) 32 (xVar 0) (aCons (xVar 2) (aNil)))) (xVar 1) (xVar 3))
    (sRet (xVar 4)))))))
def B_Book_drop (G : G) (c : Calls) : SM := sSeq (sIf (xDNotIn (xTup (aCons (xVar 1) (aCons (xVar 2) (aNil)))) (xFld 32 (G.ok 3) 3 (xVar 0))) (sRet (xC (.bl false))) (sSkip))
    (sSeq (sExpr (xDPop1 (xFld 32 (G.ok 3) 3 (xVar 0)) (xTup (aCons (xVar 1) (aCons (xVar 2) (aNil))))))
    (sSeq (sExpr (xDPop1 (xFld 32 (G.ok 1) 1 (xMeth c (G.mt 26) 32 (xVar 0) (aCons (xVar 2) (aNil)))) (xVar 1)))
    (sRet (xC (.bl true)))))
def B_Book_wishes (G : G) (c : Calls) : SM := sRet (xMut (lSort (xLst (lCompK (xFld 32 (G.ok 3) 3 (xVar 0)) (.tup [2, 3]) (some (xBin oEq (xVar 2) (xVar 1))) (xTup (aCons (xVar 3) (aCons (xDGet (xFld 32 (G.ok 3) 3 (xVar 0)) (xTup (aCons (xVar 2) (aCons (xVar 3) (aNil))))) (aNil)))) [2, 3]))))
def B_Book_leave (G : G) (c : Calls) : SM := sSeq (sSet 2 (xMeth c (G.mt 43) 32 (xVar 0) (aCons (xVar 1) (aNil))))
    (sSeq (sFor (iVal (xVar 2)) (.tup [3, 4]) (sExpr (xMeth c (G.mt 7) 32 (xVar 0) (aCons (xVar 1) (aCons (xVar 3) (aNil))))))
    (sRet (xB bLen (aCons (xVar 2) (aNil)))))
def B_Book_size (G : G) (c : Calls) : SM := sRet (xB bLen (aCons (xFld 32 (G.ok 3) 3 (xVar 0)) (aNil)))
def B_Book_collect (G : G) (c : Calls) : SM := sSeq (sIf (xNot (xAnd (xVar 3) (xBm isStr oStarts (xBin oIx (xVar 2) (xC (.int 0))) (xC (.str [36]))))) (sSeq (sExpr (xMeth c (G.mt 35) 32 (xVar 0) (aCons (xDGet2 (xFld 32 (G.ok 0) 0 (xVar 1)) (xC (.str [35])) (xC .non)) (aCons (xVar 4) (aNil)))))
    (sIf (xAnd (xVar 2) (xDIn (xC (.str [43])) (xFld 32 (G.ok 0) 0 (xVar 1)))) (sExpr (xMeth c (G.mt 4) 32 (xVar 0) (aCons (xDGet (xFld 32 (G.ok 0) 0 (xVar 1)) (xC (.str [43]))) (aCons (xLst (lSl (xVar 2) (some (xC (.int 1))) none)) (aCons (xC (.bl false)) (aCons (xVar 4) (aNil))))))) (sSkip))) (sSkip))
    (sIf (xNot (xVar 2)) (sExpr (xMeth c (G.mt 35) 32 (xVar 0) (aCons (xVar 1) (aCons (xVar 4) (aNil))))) (sIf (xDIn (xBin oIx (xVar 2) (xC (.int 0))) (xFld 32 (G.ok 0) 0 (xVar 1))) (sExpr (xMeth c (G.mt 4) 32 (xVar 0) (aCons (xDGet (xFld 32 (G.ok 0) 0 (xVar 1)) (xBin oIx (xVar 2) (xC (.int 0)))) (aCons (xLst (lSl (xVar 2) (some (xC (.int 1))) none)) (aCons (xC (.bl false)) (aCons (xVar 4) (aNil))))))) (sSkip)))
def B_Book_take (G : G) (c : Calls) : SM := sIf (xBin oIsNot (xVar 1) (xC .non)) (sForK (xFld 32 (G.ok 1) 1 (xVar 1)) (.name 3) (sDPut (xVar 2) (xVar 3) (xB bMax2 (aCons (xDGet2 (xVar 2) (xVar 3) (xC (.int 0))) (aCons (xDGet (xFld 32 (G.ok 1) 1 (xVar 1)) (xVar 3)) (aNil)))))) (sSkip)
def B_Book_hears (G : G) (c : Calls) : SM := sSeq (sExpr (xCall c 1 (aCons (xVar 1) (aNil))))
    (sSeq (sSet 2 (xDNew false))
    (sSeq (sExpr (xMeth c (G.mt 4) 32 (xVar 0) (aCons (xFld 32 (G.ok 2) 2 (xVar 0)) (aCons (xLst (lSplit (xVar 1) (xC (.str [47])))) (aCons (xC (.bl true)) (aCons (xVar 2) (aNil)))))))
    (sRet (xLst (lComp (iVal (xLst (lSortK (xVar 2)))) (.name 3) none (xTup (aCons (xVar 3) (aCons (xDGet (xVar 2) (xVar 3)) (aNil)))) [3])))))
def B_kind_number (G : G) (c : Calls) : SM := sSeq (sSet 1 (xLst (lCat (xC (.lst [(.str []), (.str [99, 111, 110, 110, 101, 99, 116]), (.str [103, 114, 101, 101, 116, 101, 100]), (.str [115, 97, 121]), (.str [103, 111, 116]), (.str [104, 101, 108, 100]), (.str [102, 114, 101, 101]), (.str [100, 111, 110, 101]), (.str [104, 101, 97, 114]), (.str [104, 101, 97, 114, 100]), (.str [100, 114, 111, 112]), (.str [100, 114, 111, 112, 112, 101, 100])])) (xC (.lst [(.str [112, 105, 110, 103]), (.str [112, 111, 110, 103]), (.str [108, 101, 97, 118, 101])])))))
    (sRet (xBm isLst oIndex (xVar 1) (xVar 0)))
def B_must (G : G) (c : Calls) : SM := sIf (xNot (xVar 0)) (sRaise 2) (sSkip)
def B_is_body (G : G) (c : Calls) : SM := sRet (xAnd (xBin oLe (xB bLen (aCons (xVar 0) (aNil))) (xC (.int 300))) (xB bAll (aCons (xLst (lComp (iVal (xVar 0)) (.name 1) none (xAnd (xChain oLe oLt (xC (.int 32)) (xB bOrd (aCons (xVar 1) (aNil))) (xC (.int 127))) (xBin oNe (xB bOrd (aCons (xVar 1) (aNil))) (xC (.int 37)))) [1])) (aNil))))
def B_is_id (G : G) (c : Calls) : SM := sRet (xChain oLe oLe (xC (.int 1)) (xVar 0) (xC (.int 65535)))
def B_look_tiding (G : G) (c : Calls) : SM := sSeq (sExpr (xCall c 1 (aCons (xVar 0) (aNil))))
    (sSeq (sExpr (xCall c 4 (aCons (xVar 2) (aNil))))
    (sExpr (xCall c 25 (aCons (xAnd (xCall c 26 (aCons (xVar 1) (aNil))) (xBin oIn (xVar 3) (xTup (aCons (xC (.bl true)) (aCons (xC (.bl false)) (aNil)))))) (aNil)))))
def B_look_say (G : G) (c : Calls) : SM := sSeq (sExpr (xCall c 28 (aCons (xBin oIx (xVar 0) (xC (.int 1))) (aCons (xBin oIx (xVar 0) (xC (.int 2))) (aCons (xBin oIx (xVar 0) (xC (.int 3))) (aCons (xBin oIx (xVar 0) (xC (.int 4))) (aNil)))))))
    (sSeq (sExpr (xCall c 25 (aCons (xBin oIn (xBin oIx (xVar 0) (xC (.int 5))) (xTup (aCons (xC (.bl true)) (aCons (xC (.bl false)) (aNil))))) (aNil))))
    (sExpr (xCall c 25 (aCons (xIf (xBin oGt (xBin oIx (xVar 0) (xC (.int 3))) (xC (.int 0))) (xCall c 27 (aCons (xBin oIx (xVar 0) (xC (.int 6))) (aNil))) (xAnd (xBin oEq (xBin oIx (xVar 0) (xC (.int 6))) (xC (.int 0))) (xNot (xBin oIx (xVar 0) (xC (.int 5)))))) (aNil)))))
def B_look_some (G : G) (c : Calls) : SM := sSeq (sExpr (xCall c 25 (aCons (xAnd (xCall c 27 (aCons (xBin oIx (xVar 0) (xC (.int 1))) (aNil))) (xChain oLe oLe (xC (.int 1)) (xB bLen (aCons (xBin oIx (xVar 0) (xC (.int 2))) (aNil))) (xC (.int 10)))) (aNil))))
    (sFor (iVal (xBin oIx (xVar 0) (xC (.int 2)))) (.name 1) (sIf (xBin oEq (xBin oIx (xVar 0) (xC (.int 0))) (xC (.str [104, 101, 97, 114, 100]))) (sExpr (xCall c 25 (aCons (xBin oIn (xVar 1) (xTup (aCons (xC (.int 0)) (aCons (xC (.int 1)) (aCons (xC (.int 2)) (aCons (xC (.int 128)) (aNil))))))) (aNil)))) (sIf (xBin oEq (xBin oIx (xVar 0) (xC (.int 0))) (xC (.str [100, 114, 111, 112]))) (sExpr (xCall c 2 (aCons (xVar 1) (aNil)))) (sSeq (sExpr (xCall c 25 (aCons (xBin oEq (xB bLen (aCons (xVar 1) (aNil))) (xC (.int 2))) (aNil))))
    (sSeq (sExpr (xCall c 2 (aCons (xBin oIx (xVar 1) (xC (.int 0))) (aNil))))
    (sExpr (xCall c 4 (aCons (xBin oIx (xVar 1) (xC (.int 1))) (aNil)))))))))
def B_look_whole (G : G) (c : Calls) : SM := sSeq (sExpr (xCall c 25 (aCons (xAnd (xBin oGt (xB bLen (aCons (xVar 0) (aNil))) (xC (.int 0))) (xBin oEq (xB bLen (aCons (xVar 0) (aNil))) (xKGet [([99, 111, 110, 110, 101, 99, 116], (.int 4)), ([103, 114, 101, 101, 116, 101, 100], (.int 2)), ([115, 97, 121], (.int 7)), ([103, 111, 116], (.int 2)), ([104, 101, 108, 100], (.int 2)), ([102, 114, 101, 101], (.int 2)), ([100, 111, 110, 101], (.int 2)), ([104, 101, 97, 114], (.int 3)), ([104, 101, 97, 114, 100], (.int 3))] (xBin oIx (xVar 0) (xC (.int 0))) (xKGet [([100, 114, 111, 112], (.int 3)), ([100, 114, 111, 112, 112, 101, 100], (.int 2)), ([112, 105, 110, 103], (.int 1)), ([112, 111, 110, 103], (.int 1)), ([108, 101, 97, 118, 101], (.int 1))] (xBin oIx (xVar 0) (xC (.int 0))) (xC (.int 0)))))) (aNil))))
    (sSeq (sSet 1 (xBin oIx (xVar 0) (xC (.int 0))))
    (sIf (xBin oEq (xVar 1) (xC (.str [99, 111, 110, 110, 101, 99, 116]))) (sSeq (sExpr (xCall c 3 (aCons (xBin oIx (xVar 0) (xC (.int 1))) (aNil))))
    (sSeq (sExpr (xCall c 25 (aCons (xBin oIn (xBin oIx (xVar 0) (xC (.int 2))) (xTup (aCons (xC (.bl true)) (aCons (xC (.bl false)) (aNil))))) (aNil))))
    (sIf (xBin oIsNot (xBin oIx (xVar 0) (xC (.int 3))) (xC .non)) (sSeq (sExpr (xCall c 25 (aCons (xBin oEq (xB bLen (aCons (xBin oIx (xVar 0) (xC (.int 3))) (aNil))) (xC (.int 4))) (aNil))))
    (sExpr (xCall c 28 (aCons (xBin oIx (xBin oIx (xVar 0) (xC (.int 3))) (xC (.int 0))) (aCons (xBin oIx (xBin oIx (xVar 0) (xC (.int 3))) (xC (.int 1))) (aCons (xBin oIx (xBin oIx (xVar 0) (xC (.int 3))) (xC (.int 2))) (aCons (xBin oIx (xBin oIx (xVar 0) (xC (.int 3))) (xC (.int 3))) (aNil)))))))) (sSkip)))) (sIf (xBin oEq (xVar 1) (xC (.str [103, 114, 101, 101, 116, 101, 100]))) (sExpr (xCall c 25 (aCons (xBin oIn (xBin oIx (xVar 0) (xC (.int 1))) (xTup (aCons (xC (.bl true)) (aCons (xC (.bl false)) (aNil))))) (aNil)))) (sIf (xBin oEq (xVar 1) (xC (.str [115, 97, 121]))) (sExpr (xCall c 29 (aCons (xVar 0) (aNil)))) (sIf (xBin oIn (xVar 1) (xTup (aCons (xC (.str [104, 101, 97, 114])) (aCons (xC (.str [104, 101, 97, 114, 100])) (aCons (xC (.str [100, 114, 111, 112])) (aNil)))))) (sExpr (xCall c 30 (aCons (xVar 0) (aNil)))) (sIf (xBin oEq (xB bLen (aCons (xVar 0) (aNil))) (xC (.int 2))) (sExpr (xCall c 25 (aCons (xCall c 27 (aCons (xBin oIx (xVar 0) (xC (.int 1))) (aNil))) (aNil)))) (sSkip)))))))
def B_look_packet (G : G) (c : Calls) : SM := sTryR (sExpr (xCall c 31 (aCons (xVar 0) (aNil)))) (G.tk 1) 2
def B_id_bytes (G : G) (c : Calls) : SM := sRet (xMut (lLst (aCons (xBin oDiv (xVar 0) (xC (.int 256))) (aCons (xBin oSub (xVar 0) (xBin oMul (xBin oDiv (xVar 0) (xC (.int 256))) (xC (.int 256)))) (aNil)))))
def B_text_bytes (G : G) (c : Calls) : SM := sRet (xLst (lCat (xCall c 33 (aCons (xB bLen (aCons (xVar 0) (aNil))) (aNil))) (xLst (lComp (iVal (xVar 0)) (.name 1) none (xB bOrd (aCons (xVar 1) (aNil))) [1]))))
def B_will_bytes (G : G) (c : Calls) : SM := sSeq (sSet 1 (xBin oIx (xVar 0) (xC (.int 3))))
    (sSeq (sIf (xBin oIs (xVar 1) (xC .non)) (sRet (xLst (lLst (aCons (xBin oMul (xC (.int 2)) (xB bInt (aCons (xBin oIx (xVar 0) (xC (.int 2))) (aNil)))) (aNil))))) (sSkip))
    (sSeq (sSet 2 (xBin oAdd (xBin oAdd (xBin oAdd (xBin oMul (xC (.int 2)) (xB bInt (aCons (xBin oIx (xVar 0) (xC (.int 2))) (aNil)))) (xC (.int 4))) (xBin oMul (xC (.int 8)) (xBin oIx (xVar 1) (xC (.int 2))))) (xBin oMul (xC (.int 32)) (xB bInt (aCons (xBin oIx (xVar 1) (xC (.int 3))) (aNil))))))
    (sRet (xLst (lCat (xLst (lCat (xLst (lLst (aCons (xVar 2) (aNil)))) (xCall c 34 (aCons (xBin oIx (xVar 1) (xC (.int 0))) (aNil))))) (xCall c 34 (aCons (xBin oIx (xVar 1) (xC (.int 1))) (aNil))))))))
def B_rest_bytes (G : G) (c : Calls) : SM := sSeq (sSet 1 (xBin oIx (xVar 0) (xC (.int 0))))
    (sSeq (sIf (xBin oEq (xVar 1) (xC (.str [99, 111, 110, 110, 101, 99, 116]))) (sRet (xLst (lCat (xCall c 34 (aCons (xBin oIx (xVar 0) (xC (.int 1))) (aNil))) (xCall c 35 (aCons (xVar 0) (aNil)))))) (sSkip))
    (sSeq (sIf (xBin oEq (xVar 1) (xC (.str [103, 114, 101, 101, 116, 101, 100]))) (sRet (xLst (lLst (aCons (xB bInt (aCons (xBin oIx (xVar 0) (xC (.int 1))) (aNil))) (aNil))))) (sSkip))
    (sSeq (sIf (xBin oEq (xVar 1) (xC (.str [115, 97, 121]))) (sSeq (sSet 4 (xIf (xBin oGt (xBin oIx (xVar 0) (xC (.int 3))) (xC (.int 0))) (xCall c 33 (aCons (xBin oIx (xVar 0) (xC (.int 6))) (aNil))) (xLst (lLst (aNil)))))
    (sRet (xLst (lCat (xLst (lCat (xCall c 34 (aCons (xBin oIx (xVar 0) (xC (.int 1))) (aNil))) (xVar 4))) (xLst (lComp (iVal (xBin oIx (xVar 0) (xC (.int 2)))) (.name 5) none (xB bOrd (aCons (xVar 5) (aNil))) [5])))))) (sSkip))
    (sSeq (sIf (xBin oEq (xB bLen (aCons (xVar 0) (aNil))) (xC (.int 1))) (sRet (xLst (lLst (aNil)))) (sSkip))
    (sSeq (sSet 2 (xCall c 33 (aCons (xBin oIx (xVar 0) (xC (.int 1))) (aNil))))
    (sSeq (sFor (iVal (xIf (xBin oEq (xB bLen (aCons (xVar 0) (aNil))) (xC (.int 3))) (xBin oIx (xVar 0) (xC (.int 2))) (xTup (aNil)))) (.name 3) (sIf (xBin oEq (xVar 1) (xC (.str [104, 101, 97, 114, 100]))) (sExpr (xApp (xVar 2) (xVar 3))) (sIf (xBin oEq (xVar 1) (xC (.str [100, 114, 111, 112]))) (sExpr (xExt (xVar 2) (xCall c 34 (aCons (xVar 3) (aNil))))) (sExpr (xExt (xVar 2) (xLst (lCat (xCall c 34 (aCons (xBin oIx (xVar 3) (xC (.int 0))) (aNil))) (xLst (lLst (aCons (xBin oIx (xVar 3) (xC (.int 1))) (aNil)))))))))))
    (sRet (xFrz (xVar 2)))))))))
def B_length_bytes (G : G) (c : Calls) : SM := sSeq (sIf (xBin oLt (xVar 0) (xC (.int 128))) (sRet (xLst (lLst (aCons (xVar 0) (aNil))))) (sSkip))
    (sRet (xLst (lLst (aCons (xBin oSub (xBin oAdd (xC (.int 128)) (xVar 0)) (xBin oMul (xBin oDiv (xVar 0) (xC (.int 128))) (xC (.int 128)))) (aCons (xBin oDiv (xVar 0) (xC (.int 128))) (aNil))))))
def B_written_packet (G : G) (c : Calls) : SM := sSeq (sExpr (xCall c 32 (aCons (xVar 0) (aNil))))
    (sSeq (sSet 1 (xC (.int 0)))
    (sSeq (sIf (xBin oEq (xBin oIx (xVar 0) (xC (.int 0))) (xC (.str [115, 97, 121]))) (sSet 1 (xBin oAdd (xBin oAdd (xBin oMul (xC (.int 8)) (xB bInt (aCons (xBin oIx (xVar 0) (xC (.int 5))) (aNil)))) (xBin oMul (xC (.int 2)) (xBin oIx (xVar 0) (xC (.int 3))))) (xB bInt (aCons (xBin oIx (xVar 0) (xC (.int 4))) (aNil))))) (sSkip))
    (sSeq (sSet 2 (xCall c 36 (aCons (xVar 0) (aNil))))
    (sRet (xLst (lCat (xLst (lCat (xLst (lLst (aCons (xBin oAdd (xBin oMul (xC (.int 16)) (xCall c 24 (aCons (xBin oIx (xVar 0) (xC (.int 0))) (aNil)))) (xVar 1)) (aNil)))) (xCall c 37 (aCons (xB bLen (aCons (xVar 2) (aNil))) (aNil))))) (xVar 2)))))))
def B_Bytes___init__ (G : G) (c : Calls) : SM := sSeq (sFld 32 (G.ok 4) 4 (xVar 0) (xVar 1))
    (sFld 32 (G.ok 5) 5 (xVar 0) (xC (.int 0)))
def B_Bytes_is_end (G : G) (c : Calls) : SM := sRet (xBin oEq (xFld 32 (G.ok 5) 5 (xVar 0)) (xB bLen (aCons (xFld 32 (G.ok 4) 4 (xVar 0)) (aNil))))
def B_Bytes_byte (G : G) (c : Calls) : SM := sSeq (sIf (xMeth c (G.mt 18) 32 (xVar 0) aNil) (sRaise 3) (sSkip))
    (sSeq (sFld 32 (G.ok 5) 5 (xVar 0) (xBin oAdd (xFld 32 (G.ok 5) 5 (xVar 0)) (xC (.int 1))))
    (sRet (xBin oIx (xFld 32 (G.ok 4) 4 (xVar 0)) (xBin oSub (xFld 32 (G.ok 5) 5 (xVar 0)) (xC (.int 1))))))
def B_Bytes_number (G : G) (c : Calls) : SM := sSeq (sSet 1 (xMeth c (G.mt 2) 32 (xVar 0) aNil))
    (sRet (xBin oAdd (xBin oMul (xC (.int 256)) (xVar 1)) (xMeth c (G.mt 2) 32 (xVar 0) aNil)))
def B_Bytes_text (G : G) (c : Calls) : SM := sSeq (sSet 2 (xC (.str [])))
    (sSeq (sFor (iRng1 (xVar 1)) (.name 3) (sSeq (sSet 4 (xMeth c (G.mt 2) 32 (xVar 0) aNil))
    (sSeq (sIf (xNot (xChain oLe oLt (xC (.int 32)) (xVar 4) (xC (.int 127)))) (sRaise 3) (sSkip))
    (sSet 2 (xBin oAdd (xVar 2) (xBin oIx (xC (.str [32, 33, 34, 35, 36, 32, 38, 39, 40, 41, 42, 43, 44, 45, 46, 47, 48, 49, 50, 51, 52, 53, 54, 55, 56, 57, 58, 59, 60, 61, 62, 63, 64, 65, 66, 67, 68, 69, 70, 71, 72, 73, 74, 75, 76, 77, 78, 79, 80, 81, 82, 83, 84, 85, 86, 87, 88, 89, 90, 91, 92, 93, 94, 95, 96, 97, 98, 99, 100, 101, 102, 103, 104, 105, 106, 107, 108, 109, 110, 111, 112, 113, 114, 115, 116, 117, 118, 119, 120, 121, 122, 123, 124, 125, 126])) (xBin oSub (xVar 4) (xC (.int 32)))))))))
    (sRet (xVar 2)))
def B_Bytes_counted (G : G) (c : Calls) : SM := sRet (xMeth c (G.mt 37) 32 (xVar 0) (aCons (xMeth c (G.mt 27) 32 (xVar 0) aNil) (aNil)))
def B_read_connect (G : G) (c : Calls) : SM := sSeq (sSet 1 (xMeth c (G.mt 6) 32 (xVar 0) aNil))
    (sSeq (sSet 2 (xMeth c (G.mt 2) 32 (xVar 0) aNil))
    (sSeq (sSet 3 (xBin oEq (xBin oMod (xBin oDiv (xVar 2) (xC (.int 2))) (xC (.int 2))) (xC (.int 1))))
    (sSeq (sIf (xBin oEq (xBin oMod (xBin oDiv (xVar 2) (xC (.int 4))) (xC (.int 2))) (xC (.int 0))) (sRet (xTup (aCons (xC (.str [99, 111, 110, 110, 101, 99, 116])) (aCons (xVar 1) (aCons (xVar 3) (aCons (xC .non) (aNil))))))) (sSkip))
    (sSeq (sSet 4 (xMeth c (G.mt 6) 32 (xVar 0) aNil))
    (sRet (xTup (aCons (xC (.str [99, 111, 110, 110, 101, 99, 116])) (aCons (xVar 1) (aCons (xVar 3) (aCons (xTup (aCons (xVar 4) (aCons (xMeth c (G.mt 6) 32 (xVar 0) aNil) (aCons (xBin oMod (xBin oDiv (xVar 2) (xC (.int 8))) (xC (.int 4))) (aCons (xBin oEq (xBin oMod (xBin oDiv (xVar 2) (xC (.int 32))) (xC (.int 2))) (xC (.int 1))) (aNil)))))) (aNil)))))))))))
def B_read_say (G : G) (c : Calls) : SM := sSeq (sSet 2 (xMeth c (G.mt 6) 32 (xVar 0) aNil))
    (sSeq (sSet 3 (xBin oMod (xBin oDiv (xVar 1) (xC (.int 2))) (xC (.int 4))))
    (sSeq (sSet 4 (xIf (xBin oGt (xVar 3) (xC (.int 0))) (xMeth c (G.mt 27) 32 (xVar 0) aNil) (xC (.int 0))))
    (sSeq (sSet 5 (xMeth c (G.mt 37) 32 (xVar 0) (aCons (xBin oSub (xB bLen (aCons (xFld 32 (G.ok 4) 4 (xVar 0)) (aNil))) (xFld 32 (G.ok 5) 5 (xVar 0))) (aNil))))
    (sRet (xTup (aCons (xC (.str [115, 97, 121])) (aCons (xVar 2) (aCons (xVar 5) (aCons (xVar 3) (aCons (xBin oEq (xBin oMod (xVar 1) (xC (.int 2))) (xC (.int 1))) (aCons (xBin oEq (xBin oDiv (xVar 1) (xC (.int 8))) (xC (.int 1))) (aCons (xVar 4) (aNil)))))))))))))
def B_read_some (G : G) (c : Calls) : SM := sSeq (sSet 2 (xMeth c (G.mt 27) 32 (xVar 0) aNil))
    (sSeq (sSet 3 (xMut (lLst (aNil))))
    (sSeq (sWhile (xNot (xMeth c (G.mt 18) 32 (xVar 0) aNil)) (sIf (xBin oEq (xVar 1) (xC (.str [104, 101, 97, 114, 100]))) (sExpr (xApp (xVar 3) (xMeth c (G.mt 2) 32 (xVar 0) aNil))) (sIf (xBin oEq (xVar 1) (xC (.str [100, 114, 111, 112]))) (sExpr (xApp (xVar 3) (xMeth c (G.mt 6) 32 (xVar 0) aNil))) (sSeq (sSet 4 (xMeth c (G.mt 6) 32 (xVar 0) aNil))
    (sExpr (xApp (xVar 3) (xTup (aCons (xVar 4) (aCons (xMeth c (G.mt 2) 32 (xVar 0) aNil) (aNil))))))))))
    (sRet (xTup (aCons (xVar 1) (aCons (xVar 2) (aCons (xTuple (xVar 3)) (aNil))))))))
def B_read_rest (G : G) (c : Calls) : SM := sSeq (sIf (xBin oEq (xVar 0) (xC (.str [99, 111, 110, 110, 101, 99, 116]))) (sRet (xCall c 45 (aCons (xVar 2) (aNil)))) (sSkip))
    (sSeq (sIf (xBin oEq (xVar 0) (xC (.str [103, 114, 101, 101, 116, 101, 100]))) (sRet (xTup (aCons (xC (.str [103, 114, 101, 101, 116, 101, 100])) (aCons (xBin oEq (xMeth c (G.mt 2) 32 (xVar 2) aNil) (xC (.int 1))) (aNil))))) (sSkip))
    (sSeq (sIf (xBin oEq (xVar 0) (xC (.str [115, 97, 121]))) (sRet (xCall c 46 (aCons (xVar 2) (aCons (xVar 1) (aNil))))) (sSkip))
    (sSeq (sIf (xBin oIn (xVar 0) (xTup (aCons (xC (.str [104, 101, 97, 114])) (aCons (xC (.str [104, 101, 97, 114, 100])) (aCons (xC (.str [100, 114, 111, 112])) (aNil)))))) (sRet (xCall c 47 (aCons (xVar 2) (aCons (xVar 0) (aNil))))) (sSkip))
    (sRet (xIf (xBin oIn (xVar 0) (xC (.lst [(.str [112, 105, 110, 103]), (.str [112, 111, 110, 103]), (.str [108, 101, 97, 118, 101])]))) (xTup (aCons (xVar 0) (aNil))) (xTup (aCons (xVar 0) (aCons (xMeth c (G.mt 27) 32 (xVar 2) aNil) (aNil)))))))))
def B_head_of (G : G) (c : Calls) : SM := sSeq (sIf (xAnd (xVar 0) (xNot (xChain oLe oLt (xC (.int 16)) (xBin oIx (xVar 0) (xC (.int 0))) (xBin oMul (xC (.int 16)) (xB bLen (aCons (xLst (lCat (xC (.lst [(.str []), (.str [99, 111, 110, 110, 101, 99, 116]), (.str [103, 114, 101, 101, 116, 101, 100]), (.str [115, 97, 121]), (.str [103, 111, 116]), (.str [104, 101, 108, 100]), (.str [102, 114, 101, 101]), (.str [100, 111, 110, 101]), (.str [104, 101, 97, 114]), (.str [104, 101, 97, 114, 100]), (.str [100, 114, 111, 112]), (.str [100, 114, 111, 112, 112, 101, 100])])) (xC (.lst [(.str [112, 105, 110, 103]), (.str [112, 111, 110, 103]), (.str [108, 101, 97, 118, 101])])))) (aNil))))))) (sRaise 3) (sSkip))
    (sSeq (sIf (xOr (xBin oLt (xB bLen (aCons (xVar 0) (aNil))) (xC (.int 2))) (xAnd (xBin oGe (xBin oIx (xVar 0) (xC (.int 1))) (xC (.int 128))) (xBin oLt (xB bLen (aCons (xVar 0) (aNil))) (xC (.int 3))))) (sRet (xC .non)) (sSkip))
    (sSeq (sSet 1 (xIf (xBin oLt (xBin oIx (xVar 0) (xC (.int 1))) (xC (.int 128))) (xBin oIx (xVar 0) (xC (.int 1))) (xBin oAdd (xBin oSub (xBin oIx (xVar 0) (xC (.int 1))) (xC (.int 128))) (xBin oMul (xC (.int 128)) (xBin oIx (xVar 0) (xC (.int 2)))))))
    (sSeq (sIf (xOr (xAnd (xBin oGe (xBin oIx (xVar 0) (xC (.int 1))) (xC (.int 128))) (xNot (xChain oLe oLt (xC (.int 1)) (xBin oIx (xVar 0) (xC (.int 2))) (xC (.int 128))))) (xBin oGt (xVar 1) (xC (.int 2000)))) (sRaise 3) (sSkip))
    (sRet (xTup (aCons (xBin oIx (xVar 0) (xC (.int 0))) (aCons (xVar 1) (aCons (xIf (xBin oLt (xBin oIx (xVar 0) (xC (.int 1))) (xC (.int 128))) (xC (.int 2)) (xC (.int 3))) (aNil)))))))))
def B_read_packet (G : G) (c : Calls) : SM := sSeq (sSet 1 (xCall c 49 (aCons (xVar 0) (aNil))))
    (sSeq (sIf (xOr (xBin oIs (xVar 1) (xC .non)) (xBin oNe (xB bLen (aCons (xVar 0) (aNil))) (xBin oAdd (xBin oIx (xVar 1) (xC (.int 1))) (xBin oIx (xVar 1) (xC (.int 2)))))) (sRaise 3) (sSkip))
    (sSeq (sSet 2 (xMake c 12 39 (aCons (xVar 0) (aNil))))
    (sSeq (sFld 32 (G.ok 5) 5 (xVar 2) (xBin oIx (xVar 1) (xC (.int 2))))
    (sSeq (sSet 3 (xCall c 48 (aCons (xBin oIx (xLst (lCat (xC (.lst [(.str []), (.str [99, 111, 110, 110, 101, 99, 116]), (.str [103, 114, 101, 101, 116, 101, 100]), (.str [115, 97, 121]), (.str [103, 111, 116]), (.str [104, 101, 108, 100]), (.str [102, 114, 101, 101]), (.str [100, 111, 110, 101]), (.str [104, 101, 97, 114]), (.str [104, 101, 97, 114, 100]), (.str [100, 114, 111, 112]), (.str [100, 114, 111, 112, 112, 101, 100])])) (xC (.lst [(.str [112, 105, 110, 103]), (.str [112, 111, 110, 103]), (.str [108, 101, 97, 118, 101])])))) (xBin oDiv (xBin oIx (xVar 1) (xC (.int 0))) (xC (.int 16)))) (aCons (xBin oSub (xBin oIx (xVar 1) (xC (.int 0))) (xBin oMul (xBin oDiv (xBin oIx (xVar 1) (xC (.int 0))) (xC (.int 16))) (xC (.int 16)))) (aCons (xVar 2) (aNil))))))
    (sSeq (sSet 4 (xC .non))
    (sSeq (sTryR (sSet 4 (xCall c 38 (aCons (xVar 3) (aNil)))) (G.tk 2) 3)
    (sSeq (sIf (xBin oNe (xVar 4) (xVar 0)) (sRaise 3) (sSkip))
    (sRet (xVar 3)))))))))
def B_Pieces___init__ (G : G) (c : Calls) : SM := sSeq (sFld 32 (G.ok 4) 4 (xVar 0) (xLst (lLst (aNil))))
    (sFld 32 (G.ok 6) 6 (xVar 0) (xC (.bl false)))
def B_Pieces_feed (G : G) (c : Calls) : SM := sSeq (sSet 2 (xMut (lLst (aNil))))
    (sSeq (sFld 32 (G.ok 4) 4 (xVar 0) (xLst (lCat (xFld 32 (G.ok 4) 4 (xVar 0)) (xLst (lList (xVar 1))))))
    (sSeq (sWhile (xNot (xFld 32 (G.ok 6) 6 (xVar 0))) (sTry (sSeq (sSet 3 (xCall c 49 (aCons (xFld 32 (G.ok 4) 4 (xVar 0)) (aNil))))
    (sSeq (sIf (xOr (xBin oIs (xVar 3) (xC .non)) (xBin oLt (xB bLen (aCons (xFld 32 (G.ok 4) 4 (xVar 0)) (aNil))) (xBin oAdd (xBin oIx (xVar 3) (xC (.int 1))) (xBin oIx (xVar 3) (xC (.int 2)))))) (sBrk) (sSkip))
    (sSeq (sExpr (xApp (xVar 2) (xCall c 50 (aCons (xLst (lSl (xFld 32 (G.ok 4) 4 (xVar 0)) none (some (xBin oAdd (xBin oIx (xVar 3) (xC (.int 1))) (xBin oIx (xVar 3) (xC (.int 2))))))) (aNil)))))
    (sFld 32 (G.ok 4) 4 (xVar 0) (xLst (lSl (xFld 32 (G.ok 4) 4 (xVar 0)) (some (xBin oAdd (xBin oIx (xVar 3) (xC (.int 1))) (xBin oIx (xVar 3) (xC (.int 2))))) none)))))) (G.tk 3) (hdNo (sSeq (sFld 32 (G.ok 6) 6 (xVar 0) (xC (.bl true)))
    (sExpr (xApp (xVar 2) (xTup (aCons (xC (.str [98, 97, 100])) (aNil)))))))))
    (sRet (xFrz (xVar 2)))))
def B_look_ends (G : G) (c : Calls) : SM := sIf (xOr (xNot (xChain oLe oLe (xC (.int 1)) (xVar 0) (xC (.int 20)))) (xNot (xChain oLe oLe (xVar 0) (xVar 1) (xC (.int 65535))))) (sRaise 4) (sSkip)
def B_Giver___init__ (G : G) (c : Calls) : SM := sSeq (sExpr (xCall c 53 (aCons (xVar 1) (aCons (xVar 2) (aNil)))))
    (sSeq (sFld 32 (G.ok 7) 7 (xVar 0) (xVar 1))
    (sSeq (sFld 32 (G.ok 8) 8 (xVar 0) (xVar 2))
    (sSeq (sFld 32 (G.ok 9) 9 (xVar 0) (xC (.int 0)))
    (sSeq (sFld 32 (G.ok 10) 10 (xVar 0) (xMut (lLst (aNil))))
    (sFld 32 (G.ok 11) 11 (xVar 0) (xMut (lLst (aNil))))))))
def B_Giver_number (G : G) (c : Calls) : SM := sSeq (sSet 1 (xLst (lComp (iVal (xFld 32 (G.ok 11) 11 (xVar 0))) (.name 2) none (xBin oIx (xVar 2) (xC (.int 0))) [2])))
    (sSeq (sFld 32 (G.ok 9) 9 (xVar 0) (xIf (xBin oLt (xFld 32 (G.ok 9) 9 (xVar 0)) (xFld 32 (G.ok 8) 8 (xVar 0))) (xBin oAdd (xFld 32 (G.ok 9) 9 (xVar 0)) (xC (.int 1))) (xC (.int 1))))
    (sSeq (sWhile (xBin oIn (xFld 32 (G.ok 9) 9 (xVar 0)) (xVar 1)) (sFld 32 (G.ok 9) 9 (xVar 0) (xIf (xBin oLt (xFld 32 (G.ok 9) 9 (xVar 0)) (xFld 32 (G.ok 8) 8 (xVar 0))) (xBin oAdd (xFld 32 (G.ok 9) 9 (xVar 0)) (xC (.int 1))) (xC (.int 1)))))
    (sRet (xFld 32 (G.ok 9) 9 (xVar 0)))))
def B_Giver_pump (G : G) (c : Calls) : SM := sSeq (sSet 1 (xMut (lLst (aNil))))
    (sSeq (sWhile (xAnd (xFld 32 (G.ok 10) 10 (xVar 0)) (xBin oLt (xB bLen (aCons (xFld 32 (G.ok 11) 11 (xVar 0)) (aNil))) (xFld 32 (G.ok 7) 7 (xVar 0)))) (sSeq (sTgt (.tup [3, 4, 5, 6]) (xBin oIx (xFld 32 (G.ok 10) 10 (xVar 0)) (xC (.int 0))))
    (sSeq (sFld 32 (G.ok 10) 10 (xVar 0) (xMut (lSl (xFld 32 (G.ok 10) 10 (xVar 0)) (some (xC (.int 1))) none)))
    (sSeq (sSet 2 (xMeth c (G.mt 27) 32 (xVar 0) aNil))
    (sSeq (sExpr (xApp (xFld 32 (G.ok 11) 11 (xVar 0)) (xTup (aCons (xVar 2) (aCons (xVar 5) (aCons (xTup (aCons (xVar 3) (aCons (xVar 4) (aCons (xVar 5) (aCons (xVar 6) (aNil)))))) (aNil)))))))
    (sExpr (xApp (xVar 1) (xTup (aCons (xC (.str [115, 97, 121])) (aCons (xVar 3) (aCons (xVar 4) (aCons (xVar 5) (aCons (xVar 6) (aCons (xC (.bl false)) (aCons (xVar 2) (aNil))))))))))))))))
    (sRet (xFrz (xVar 1))))
def B_Giver_keep (G : G) (c : Calls) : SM := sSeq (sExpr (xCall c 28 (aCons (xVar 1) (aCons (xVar 2) (aCons (xVar 3) (aCons (xVar 4) (aNil)))))))
    (sIf (xBin oGt (xVar 3) (xC (.int 0))) (sExpr (xApp (xFld 32 (G.ok 10) 10 (xVar 0)) (xTup (aCons (xVar 1) (aCons (xVar 2) (aCons (xVar 3) (aCons (xVar 4) (aNil)))))))) (sSkip))
def B_Giver_say (G : G) (c : Calls) : SM := sSeq (sExpr (xCall c 28 (aCons (xVar 1) (aCons (xVar 2) (aCons (xVar 3) (aCons (xVar 4) (aNil)))))))
    (sSeq (sIf (xBin oEq (xVar 3) (xC (.int 0))) (sRet (xLst (lLst (aCons (xTup (aCons (xC (.str [115, 97, 121])) (aCons (xVar 1) (aCons (xVar 2) (aCons (xC (.int 0)) (aCons (xVar 4) (aCons (xC (.bl false)) (aCons (xC (.int 0)) (aNil))))))))) (aNil))))) (sSkip))
    (sSeq (sExpr (xMeth c (G.mt 20) 32 (xVar 0) (aCons (xVar 1) (aCons (xVar 2) (aCons (xVar 3) (aCons (xVar 4) (aNil)))))))
    (sRet (xMeth c (G.mt 30) 32 (xVar 0) aNil))))
def B_Giver_place_of (G : G) (c : Calls) : SM := sSeq (sSet 3 (xLst (lComp (iRng1 (xB bLen (aCons (xFld 32 (G.ok 11) 11 (xVar 0)) (aNil)))) (.name 4) (some (xBin oEq (xSl (xBin oIx (xFld 32 (G.ok 11) 11 (xVar 0)) (xVar 4)) none (some (xC (.int 2)))) (xTup (aCons (xVar 1) (aCons (xVar 2) (aNil)))))) (xVar 4) [4])))
    (sRet (xIf (xVar 3) (xBin oIx (xVar 3) (xC (.int 0))) (xC .non)))
def B_Giver_took (G : G) (c : Calls) : SM := sSeq (sTgt (.tup [3, 4]) (xVar 1))
    (sSeq (sIf (xBin oEq (xVar 3) (xC (.str [104, 101, 108, 100]))) (sSeq (sSet 2 (xMeth c (G.mt 28) 32 (xVar 0) (aCons (xVar 4) (aCons (xC (.int 2)) (aNil)))))
    (sSeq (sIf (xBin oIsNot (xVar 2) (xC .non)) (sSetL (xFld 32 (G.ok 11) 11 (xVar 0)) (xVar 2) (xTup (aCons (xVar 4) (aCons (xC (.int 3)) (aCons (xC .non) (aNil)))))) (sSkip))
    (sRet (xIf (xOr (xBin oIsNot (xVar 2) (xC .non)) (xBin oIsNot (xMeth c (G.mt 28) 32 (xVar 0) (aCons (xVar 4) (aCons (xC (.int 3)) (aNil)))) (xC .non))) (xLst (lLst (aCons (xTup (aCons (xC (.str [102, 114, 101, 101])) (aCons (xVar 4) (aNil)))) (aNil)))) (xLst (lLst (aNil))))))) (sSkip))
    (sSeq (sSet 2 (xMeth c (G.mt 28) 32 (xVar 0) (aCons (xVar 4) (aCons (xIf (xBin oEq (xVar 3) (xC (.str [103, 111, 116]))) (xC (.int 1)) (xC (.int 3))) (aNil)))))
    (sSeq (sIf (xBin oIs (xVar 2) (xC .non)) (sRet (xLst (lLst (aNil)))) (sSkip))
    (sSeq (sFld 32 (G.ok 11) 11 (xVar 0) (xMut (lCat (xLst (lSl (xFld 32 (G.ok 11) 11 (xVar 0)) none (some (xVar 2)))) (xLst (lSl (xFld 32 (G.ok 11) 11 (xVar 0)) (some (xBin oAdd (xVar 2) (xC (.int 1)))) none)))))
    (sRet (xMeth c (G.mt 30) 32 (xVar 0) aNil))))))
def B_Giver_again (G : G) (c : Calls) : SM := sSeq (sSet 1 (xMut (lLst (aNil))))
    (sSeq (sFor (iVal (xFld 32 (G.ok 11) 11 (xVar 0))) (.tup [2, 3, 4]) (sIf (xBin oIs (xVar 4) (xC .non)) (sExpr (xApp (xVar 1) (xTup (aCons (xC (.str [102, 114, 101, 101])) (aCons (xVar 2) (aNil)))))) (sExpr (xApp (xVar 1) (xBin oAdd (xBin oAdd (xTup (aCons (xC (.str [115, 97, 121])) (aNil))) (xVar 4)) (xTup (aCons (xC (.bl true)) (aCons (xVar 2) (aNil)))))))))
    (sRet (xMut (lCat (xVar 1) (xMeth c (G.mt 30) 32 (xVar 0) aNil)))))
def B_Giver_many (G : G) (c : Calls) : SM := sRet (xTup (aCons (xB bLen (aCons (xFld 32 (G.ok 11) 11 (xVar 0)) (aNil))) (aCons (xB bLen (aCons (xFld 32 (G.ok 10) 10 (xVar 0)) (aNil))) (aNil))))
def B_Taker___init__ (G : G) (c : Calls) : SM := sFld 32 (G.ok 12) 12 (xVar 0) (xMut (lLst (aNil)))
def B_Taker_took (G : G) (c : Calls) : SM := sSeq (sIf (xBin oEq (xBin oIx (xVar 1) (xC (.int 0))) (xC (.str [102, 114, 101, 101]))) (sSeq (sFld 32 (G.ok 12) 12 (xVar 0) (xMut (lComp (iVal (xFld 32 (G.ok 12) 12 (xVar 0))) (.name 3) (some (xBin oNe (xVar 3) (xBin oIx (xVar 1) (xC (.int 1))))) (xVar 3) [3])))
    (sRet (xTup (aCons (xLst (lLst (aCons (xTup (aCons (xC (.str [100, 111, 110, 101])) (aCons (xBin oIx (xVar 1) (xC (.int 1))) (aNil)))) (aNil)))) (aCons (xLst (lLst (aNil))) (aNil)))))) (sSkip))
    (sSeq (sSet 2 (xSl (xVar 1) (some (xC (.int 1))) (some (xC (.int 5)))))
    (sSeq (sIf (xBin oEq (xBin oIx (xVar 1) (xC (.int 3))) (xC (.int 0))) (sRet (xTup (aCons (xLst (lLst (aNil))) (aCons (xLst (lLst (aCons (xVar 2) (aNil)))) (aNil))))) (sSkip))
    (sSeq (sIf (xBin oEq (xBin oIx (xVar 1) (xC (.int 3))) (xC (.int 1))) (sRet (xTup (aCons (xLst (lLst (aCons (xTup (aCons (xC (.str [103, 111, 116])) (aCons (xBin oIx (xVar 1) (xC (.int 6))) (aNil)))) (aNil)))) (aCons (xLst (lLst (aCons (xVar 2) (aNil)))) (aNil))))) (sSkip))
    (sSeq (sIf (xBin oIn (xBin oIx (xVar 1) (xC (.int 6))) (xFld 32 (G.ok 12) 12 (xVar 0))) (sRet (xTup (aCons (xLst (lLst (aCons (xTup (aCons (xC (.str [104, 101, 108, 100])) (aCons (xBin oIx (xVar 1) (xC (.int 6))) (aNil)))) (aNil)))) (aCons (xLst (lLst (aNil))) (aNil))))) (sSkip))
    (sSeq (sExpr (xApp (xFld 32 (G.ok 12) 12 (xVar 0)) (xBin oIx (xVar 1) (xC (.int 6)))))
    (sRet (xTup (aCons (xLst (lLst (aCons (xTup (aCons (xC (.str [104, 101, 108, 100])) (aCons (xBin oIx (xVar 1) (xC (.int 6))) (aNil)))) (aNil)))) (aCons (xLst (lLst (aCons (xVar 2) (aNil)))) (aNil))))))))))
def B_look_rules (G : G) (c : Calls) : SM := sSeq (sIf (xBin oGt (xB bLen (aCons (xVar 0) (aNil))) (xC (.int 12))) (sRaise 1) (sSkip))
    (sFor (iVal (xVar 0)) (.name 1) (sSeq (sIf (xOr (xBin oNe (xB bLen (aCons (xVar 1) (aNil))) (xC (.int 4))) (xOr (xBin oNotIn (xBin oIx (xVar 1) (xC (.int 0))) (xTup (aCons (xC (.bl true)) (aCons (xC (.bl false)) (aNil))))) (xBin oNotIn (xBin oIx (xVar 1) (xC (.int 2))) (xTup (aCons (xC (.str [115, 97, 121])) (aCons (xC (.str [104, 101, 97, 114])) (aCons (xC (.str [98, 111, 116, 104])) (aNil)))))))) (sRaise 1) (sSkip))
    (sSeq (sIf (xBin oNe (xBin oIx (xVar 1) (xC (.int 1))) (xC (.str []))) (sExpr (xCall c 3 (aCons (xBin oIx (xVar 1) (xC (.int 1))) (aNil)))) (sSkip))
    (sExpr (xCall c 2 (aCons (xBin oIx (xVar 1) (xC (.int 3))) (aNil)))))))
def B_rules_of (G : G) (c : Calls) : SM := sRet (xLst (lComp (iVal (xVar 0)) (.name 3) (some (xAnd (xBin oIn (xBin oIx (xVar 3) (xC (.int 1))) (xTup (aCons (xC (.str [])) (aCons (xVar 1) (aNil))))) (xBin oIn (xBin oIx (xVar 3) (xC (.int 2))) (xTup (aCons (xVar 2) (aCons (xC (.str [98, 111, 116, 104])) (aNil))))))) (xTup (aCons (xBin oIx (xVar 3) (xC (.int 0))) (aCons (xBin oIx (xVar 3) (xC (.int 3))) (aNil)))) [3]))
def B_may_say (G : G) (c : Calls) : SM := sSeq (sExpr (xCall c 65 (aCons (xVar 0) (aNil))))
    (sSeq (sExpr (xCall c 3 (aCons (xVar 1) (aNil))))
    (sSeq (sExpr (xCall c 1 (aCons (xVar 2) (aNil))))
    (sSeq (sFor (iVal (xCall c 66 (aCons (xVar 0) (aCons (xVar 1) (aCons (xC (.str [115, 97, 121])) (aNil)))))) (.tup [3, 4]) (sIf (xCall c 7 (aCons (xVar 4) (aCons (xVar 2) (aNil)))) (sRet (xVar 3)) (sSkip)))
    (sRet (xC (.bl true))))))
def B_stepped (G : G) (c : Calls) : SM := sSeq (sSet 3 (xMut (lLst (aNil))))
    (sSeq (sFor (iVal (xVar 0)) (.tup [4, 5]) (sIf (xAnd (xSl (xVar 5) none (some (xC (.int 1)))) (xNot (xAnd (xVar 2) (xAnd (xCall c 5 (aCons (xBin oIx (xVar 5) (xC (.int 0))) (aNil))) (xBm isStr oStarts (xVar 1) (xC (.str [36]))))))) (sIf (xBin oEq (xBin oIx (xVar 5) (xC (.int 0))) (xC (.str [35]))) (sExpr (xApp (xVar 3) (xTup (aCons (xVar 4) (aCons (xVar 5) (aNil)))))) (sIf (xBin oIn (xBin oIx (xVar 5) (xC (.int 0))) (xTup (aCons (xC (.str [43])) (aCons (xVar 1) (aNil))))) (sExpr (xApp (xVar 3) (xTup (aCons (xVar 4) (aCons (xSl (xVar 5) (some (xC (.int 1))) none) (aNil)))))) (sSkip))) (sSkip)))
    (sRet (xFrz (xVar 3))))
def B_is_let_here (G : G) (c : Calls) : SM := sSeq (sFor (iVal (xVar 0)) (.tup [1, 2]) (sIf (xOr (xNot (xVar 2)) (xBin oEq (xVar 2) (xTup (aCons (xC (.str [35])) (aNil))))) (sRet (xVar 1)) (sSkip)))
    (sRet (xC (.bl true)))
def B_choices (G : G) (c : Calls) : SM := sSeq (sIf (xNot (xCall c 5 (aCons (xBin oIx (xVar 0) (xC (.int 0))) (aNil)))) (sRet (xLst (lLst (aCons (xBin oIx (xVar 0) (xC (.int 0))) (aNil))))) (sSkip))
    (sSeq (sSet 3 (xLst (lSortSet (xLst (lComp (iVal (xVar 1)) (.tup [5, 6]) (some (xAnd (xSl (xVar 6) none (some (xC (.int 1)))) (xNot (xCall c 5 (aCons (xBin oIx (xVar 6) (xC (.int 0))) (aNil)))))) (xBin oIx (xVar 6) (xC (.int 0))) [5, 6])))))
    (sSeq (sIf (xVar 2) (sSet 3 (xLst (lComp (iVal (xVar 3)) (.name 4) (some (xNot (xBm isStr oStarts (xVar 4) (xC (.str [36]))))) (xVar 4) [4]))) (sSkip))
    (sRet (xLst (lCat (xVar 3) (xLst (lLst (aCons (xBin oIx (xLst (lComp (iVal (xC (.str [97, 98, 99, 100, 101, 102, 103, 104, 105, 106, 107, 108, 109, 110, 111, 112, 113, 114, 115, 116, 117, 118, 119, 120, 121, 122]))) (.name 7) (some (xBin oNotIn (xVar 7) (xVar 3))) (xVar 7) [7])) (xC (.int 0))) (aNil)))))))))
def B_Search___init__ (G : G) (c : Calls) : SM := sFld 32 (G.ok 13) 13 (xVar 0) (xDNew false)
def B_Search_go (G : G) (c : Calls) : SM := sSeq (sSet 4 (xTup (aCons (xVar 1) (aCons (xTuple (xVar 2)) (aCons (xB bLen (aCons (xVar 3) (aNil))) (aCons (xBin oEq (xVar 3) (xTup (aCons (xC (.str [])) (aNil)))) (aNil)))))))
    (sSeq (sIf (xDNotIn (xVar 4) (xFld 32 (G.ok 13) 13 (xVar 0))) (sDPut (xFld 32 (G.ok 13) 13 (xVar 0)) (xVar 4) (xMeth c (G.mt 10) 32 (xVar 0) (aCons (xVar 1) (aCons (xVar 2) (aCons (xVar 3) (aNil)))))) (sSkip))
    (sRet (xDGet (xFld 32 (G.ok 13) 13 (xVar 0)) (xVar 4))))
def B_Search_found (G : G) (c : Calls) : SM := sSeq (sSet 4 (xAnd (xBin oNe (xVar 3) (xTup (aNil))) (xAnd (xBin oNe (xVar 3) (xTup (aCons (xC (.str [])) (aNil)))) (xOr (xBin oEq (xVar 1) (xTup (aNil))) (xBin oEq (xVar 1) (xTup (aCons (xC (.str [35])) (aNil))))))))
    (sSeq (sIf (xAnd (xVar 4) (xNot (xCall c 69 (aCons (xVar 2) (aNil))))) (sRet (xTup (aNil))) (sSkip))
    (sSeq (sIf (xOr (xBin oEq (xVar 1) (xTup (aNil))) (xBin oEq (xB bLen (aCons (xVar 3) (aNil))) (xC (.int 8)))) (sRet (xC .non)) (sSkip))
    (sSeq (sFor (iVal (xCall c 70 (aCons (xVar 1) (aCons (xVar 2) (aCons (xBin oEq (xVar 3) (xTup (aNil))) (aNil)))))) (.name 5) (sSeq (sSet 6 (xIf (xBin oEq (xBin oIx (xVar 1) (xC (.int 0))) (xC (.str [35]))) (xVar 1) (xSl (xVar 1) (some (xC (.int 1))) none)))
    (sSeq (sSet 7 (xMeth c (G.mt 11) 32 (xVar 0) (aCons (xVar 6) (aCons (xCall c 68 (aCons (xVar 2) (aCons (xVar 5) (aCons (xBin oEq (xVar 3) (xTup (aNil))) (aNil))))) (aCons (xBin oAdd (xVar 3) (xTup (aCons (xVar 5) (aNil)))) (aNil))))))
    (sIf (xBin oIsNot (xVar 7) (xC .non)) (sRet (xBin oAdd (xTup (aCons (xVar 5) (aNil))) (xVar 7))) (sSkip)))))
    (sRet (xC .non)))))
def B_may_hear (G : G) (c : Calls) : SM := sSeq (sExpr (xCall c 65 (aCons (xVar 0) (aNil))))
    (sSeq (sExpr (xCall c 3 (aCons (xVar 1) (aNil))))
    (sSeq (sExpr (xCall c 2 (aCons (xVar 2) (aNil))))
    (sSeq (sSet 3 (xLst (lComp (iVal (xCall c 66 (aCons (xVar 0) (aCons (xVar 1) (aCons (xC (.str [104, 101, 97, 114])) (aNil)))))) (.tup [5, 6]) none (xTup (aCons (xVar 5) (aCons (xTuple (xLst (lSplit (xVar 6) (xC (.str [47]))))) (aNil)))) [5, 6])))
    (sSeq (sSet 4 (xMeth c (G.mt 11) 32 (xMake c 16 71 aNil) (aCons (xTuple (xLst (lSplit (xVar 2) (xC (.str [47]))))) (aCons (xVar 3) (aCons (xTup (aNil)) (aNil))))))
    (sRet (xIf (xBin oIs (xVar 4) (xC .non)) (xC .non) (xBm isStr oJoin (xC (.str [47])) (xVar 4))))))))
def B_Session___init__ (G : G) (c : Calls) : SM := sSeq (sFld 32 (G.ok 14) 14 (xVar 0) (xMake c 14 54 (aCons (xVar 1) (aCons (xVar 2) (aNil)))))
    (sSeq (sFld 32 (G.ok 15) 15 (xVar 0) (xMake c 15 63 aNil))
    (sSeq (sFld 32 (G.ok 16) 16 (xVar 0) (xC .non))
    (sSeq (sFld 32 (G.ok 17) 17 (xVar 0) (xC (.bl false)))
    (sFld 32 (G.ok 18) 18 (xVar 0) (xC .non)))))
def B_group_of (G : G) (c : Calls) : SM := sSeq (sSet 1 (xLst (lSplit (xVar 0) (xC (.str [47])))))
    (sRet (xIf (xAnd (xBin oEq (xBin oIx (xVar 1) (xC (.int 0))) (xC (.str [36, 115, 104, 97, 114, 101]))) (xBin oGt (xB bLen (aCons (xVar 1) (aNil))) (xC (.int 2)))) (xTup (aCons (xBin oIx (xVar 1) (xC (.int 1))) (aCons (xBm isStr oJoin (xC (.str [47])) (xLst (lSl (xVar 1) (some (xC (.int 2))) none))) (aNil)))) (xC .non)))
def B_is_share (G : G) (c : Calls) : SM := sRet (xBin oEq (xBin oIx (xLst (lSplit (xVar 0) (xC (.str [47])))) (xC (.int 0))) (xC (.str [36, 115, 104, 97, 114, 101])))
def B_House___init__ (G : G) (c : Calls) : SM := sSeq (sExpr (xCall c 53 (aCons (xVar 1) (aCons (xVar 2) (aNil)))))
    (sSeq (sExpr (xCall c 65 (aCons (xVar 3) (aNil))))
    (sSeq (sFld 32 (G.ok 7) 7 (xVar 0) (xVar 1))
    (sSeq (sFld 32 (G.ok 8) 8 (xVar 0) (xVar 2))
    (sSeq (sFld 32 (G.ok 19) 19 (xVar 0) (xLst (lList (xVar 3))))
    (sSeq (sFld 32 (G.ok 20) 20 (xVar 0) (xDNew false))
    (sSeq (sFld 32 (G.ok 21) 21 (xVar 0) (xDNew false))
    (sSeq (sFld 32 (G.ok 22) 22 (xVar 0) (xMake c 11 14 aNil))
    (sSeq (sFld 32 (G.ok 23) 23 (xVar 0) (xDNew true))
    (sSeq (sFld 32 (G.ok 24) 24 (xVar 0) (xDNew true))
    (sFld 32 (G.ok 25) 25 (xVar 0) (xDNew false)))))))))))
def B_House_here (G : G) (c : Calls) : SM := sRet (xLst (lSort (xLst (lCompK (xFld 32 (G.ok 21) 21 (xVar 0)) (.name 1) none (xTup (aCons (xDGet (xFld 32 (G.ok 21) 21 (xVar 0)) (xVar 1)) (aCons (xVar 1) (aNil)))) [1]))))
def B_House_kept (G : G) (c : Calls) : SM := sRet (xLst (lComp (iVal (xLst (lSortK (xFld 32 (G.ok 25) 25 (xVar 0))))) (.name 1) none (xTup (aCons (xVar 1) (aCons (xBin oIx (xDGet (xFld 32 (G.ok 25) 25 (xVar 0)) (xVar 1)) (xC (.int 0))) (aCons (xBin oIx (xDGet (xFld 32 (G.ok 25) 25 (xVar 0)) (xVar 1)) (xC (.int 1))) (aNil))))) [1]))
def B_House_waits (G : G) (c : Calls) : SM := sRet (xIf (xDIn (xVar 1) (xFld 32 (G.ok 20) 20 (xVar 0))) (xMeth c (G.mt 24) 32 (xFld 32 (G.ok 14) 14 (xDGet (xFld 32 (G.ok 20) 20 (xVar 0)) (xVar 1))) aNil) (xC .non))
def B_House_took (G : G) (c : Calls) : SM := sSeq (sExpr (xCall c 32 (aCons (xVar 2) (aNil))))
    (sSeq (sSet 3 (xBin oIx (xVar 2) (xC (.int 0))))
    (sSeq (sIf (xDNotIn (xVar 1) (xFld 32 (G.ok 21) 21 (xVar 0))) (sRet (xIf (xBin oEq (xVar 3) (xC (.str [99, 111, 110, 110, 101, 99, 116]))) (xMeth c (G.mt 5) 32 (xVar 0) (aCons (xVar 1) (aCons (xVar 2) (aNil)))) (xLst (lLst (aCons (xTup (aCons (xVar 1) (aCons (xTup (aCons (xC (.str [99, 108, 111, 115, 101])) (aNil))) (aNil)))) (aNil)))))) (sSkip))
    (sSeq (sSet 4 (xDGet (xFld 32 (G.ok 20) 20 (xVar 0)) (xDGet (xFld 32 (G.ok 21) 21 (xVar 0)) (xVar 1))))
    (sSeq (sIf (xBin oIn (xVar 3) (xTup (aCons (xC (.str [115, 97, 121])) (aCons (xC (.str [102, 114, 101, 101])) (aNil))))) (sRet (xMeth c (G.mt 36) 32 (xVar 0) (aCons (xVar 1) (aCons (xVar 2) (aNil))))) (sSkip))
    (sSeq (sIf (xBin oIn (xVar 3) (xTup (aCons (xC (.str [103, 111, 116])) (aCons (xC (.str [104, 101, 108, 100])) (aCons (xC (.str [100, 111, 110, 101])) (aNil)))))) (sRet (xLst (lComp (iVal (xMeth c (G.mt 38) 32 (xFld 32 (G.ok 14) 14 (xVar 4)) (aCons (xVar 2) (aNil)))) (.name 6) none (xTup (aCons (xVar 1) (aCons (xVar 6) (aNil)))) [6]))) (sSkip))
    (sSeq (sIf (xBin oEq (xVar 3) (xC (.str [104, 101, 97, 114]))) (sRet (xMeth c (G.mt 42) 32 (xVar 0) (aCons (xVar 1) (aCons (xVar 2) (aNil))))) (sSkip))
    (sSeq (sIf (xBin oEq (xVar 3) (xC (.str [100, 114, 111, 112]))) (sSeq (sFor (iVal (xBin oIx (xVar 2) (xC (.int 2)))) (.name 5) (sExpr (xMeth c (G.mt 40) 32 (xVar 0) (aCons (xDGet (xFld 32 (G.ok 21) 21 (xVar 0)) (xVar 1)) (aCons (xVar 5) (aNil))))))
    (sRet (xLst (lLst (aCons (xTup (aCons (xVar 1) (aCons (xTup (aCons (xC (.str [100, 114, 111, 112, 112, 101, 100])) (aCons (xBin oIx (xVar 2) (xC (.int 1))) (aNil)))) (aNil)))) (aNil)))))) (sSkip))
    (sSeq (sIf (xBin oEq (xVar 3) (xC (.str [112, 105, 110, 103]))) (sRet (xLst (lLst (aCons (xTup (aCons (xVar 1) (aCons (xTup (aCons (xC (.str [112, 111, 110, 103])) (aNil))) (aNil)))) (aNil))))) (sSkip))
    (sSeq (sIf (xBin oEq (xVar 3) (xC (.str [108, 101, 97, 118, 101]))) (sSeq (sFld 32 (G.ok 18) 18 (xVar 4) (xC .non))
    (sRet (xMeth c (G.mt 23) 32 (xVar 0) (aCons (xVar 1) (aNil))))) (sSkip))
    (sRet (xMeth c (G.mt 3) 32 (xVar 0) (aCons (xVar 1) (aNil)))))))))))))
def B_House_connect (G : G) (c : Calls) : SM := sSeq (sTgt (.tup [6, 7, 8, 9]) (xVar 2))
    (sSeq (sSet 3 (xLst (lLst (aNil))))
    (sSeq (sIf (xAnd (xDIn (xVar 7) (xFld 32 (G.ok 20) 20 (xVar 0))) (xBin oIsNot (xFld 32 (G.ok 16) 16 (xDGet (xFld 32 (G.ok 20) 20 (xVar 0)) (xVar 7))) (xC .non))) (sSet 3 (xMeth c (G.mt 3) 32 (xVar 0) (aCons (xFld 32 (G.ok 16) 16 (xDGet (xFld 32 (G.ok 20) 20 (xVar 0)) (xVar 7))) (aNil)))) (sSkip))
    (sSeq (sSet 4 (xAnd (xDIn (xVar 7) (xFld 32 (G.ok 20) 20 (xVar 0))) (xNot (xVar 8))))
    (sSeq (sIf (xNot (xVar 4)) (sSeq (sExpr (xMeth c (G.mt 9) 32 (xVar 0) (aCons (xVar 7) (aNil))))
    (sDPut (xFld 32 (G.ok 20) 20 (xVar 0)) (xVar 7) (xMake c 17 75 (aCons (xFld 32 (G.ok 7) 7 (xVar 0)) (aCons (xFld 32 (G.ok 8) 8 (xVar 0)) (aNil)))))) (sSkip))
    (sSeq (sSet 5 (xDGet (xFld 32 (G.ok 20) 20 (xVar 0)) (xVar 7)))
    (sSeq (sFld 32 (G.ok 16) 16 (xVar 5) (xVar 1))
    (sSeq (sFld 32 (G.ok 17) 17 (xVar 5) (xVar 8))
    (sSeq (sFld 32 (G.ok 18) 18 (xVar 5) (xVar 9))
    (sSeq (sDPut (xFld 32 (G.ok 21) 21 (xVar 0)) (xVar 1) (xVar 7))
    (sRet (xLst (lCat (xLst (lCat (xVar 3) (xLst (lLst (aCons (xTup (aCons (xVar 1) (aCons (xTup (aCons (xC (.str [103, 114, 101, 101, 116, 101, 100])) (aCons (xVar 4) (aNil)))) (aNil)))) (aNil)))))) (xLst (lComp (iVal (xMeth c (G.mt 0) 32 (xFld 32 (G.ok 14) 14 (xVar 5)) aNil)) (.name 10) none (xTup (aCons (xVar 1) (aCons (xVar 10) (aNil)))) [10]))))))))))))))
def B_House_close (G : G) (c : Calls) : SM := sRet (xLst (lCat (xLst (lLst (aCons (xTup (aCons (xVar 1) (aCons (xTup (aCons (xC (.str [99, 108, 111, 115, 101])) (aNil))) (aNil)))) (aNil)))) (xMeth c (G.mt 23) 32 (xVar 0) (aCons (xVar 1) (aNil)))))
def B_House_lost (G : G) (c : Calls) : SM := sSeq (sIf (xDNotIn (xVar 1) (xFld 32 (G.ok 21) 21 (xVar 0))) (sRaise 4) (sSkip))
    (sSeq (sSet 2 (xDPop1 (xFld 32 (G.ok 21) 21 (xVar 0)) (xVar 1)))
    (sSeq (sSet 3 (xDGet (xFld 32 (G.ok 20) 20 (xVar 0)) (xVar 2)))
    (sSeq (sFld 32 (G.ok 16) 16 (xVar 3) (xC .non))
    (sSeq (sSet 4 (xFld 32 (G.ok 18) 18 (xVar 3)))
    (sSeq (sFld 32 (G.ok 18) 18 (xVar 3) (xC .non))
    (sSeq (sIf (xFld 32 (G.ok 17) 17 (xVar 3)) (sExpr (xMeth c (G.mt 9) 32 (xVar 0) (aCons (xVar 2) (aNil)))) (sSkip))
    (sRet (xIf (xBin oIs (xVar 4) (xC .non)) (xLst (lLst (aNil))) (xMeth c (G.mt 29) 32 (xVar 0) (aCons (xVar 2) (aCons (xVar 4) (aNil))))))))))))
def B_House_forget (G : G) (c : Calls) : SM := sSeq (sExpr (xMeth c (G.mt 22) 32 (xFld 32 (G.ok 22) 22 (xVar 0)) (aCons (xVar 1) (aNil))))
    (sSeq (sFor (iVal (xLst (lListK (xFld 32 (G.ok 23) 23 (xVar 0))))) (.name 2) (sExpr (xDPop2 (xDGet (xFld 32 (G.ok 23) 23 (xVar 0)) (xVar 2)) (xVar 1) (xC .non))))
    (sIf (xDIn (xVar 1) (xFld 32 (G.ok 20) 20 (xVar 0))) (sExpr (xDPop1 (xFld 32 (G.ok 20) 20 (xVar 0)) (xVar 1))) (sSkip)))
def B_House_taken (G : G) (c : Calls) : SM := sSeq (sSet 3 (xDGet (xFld 32 (G.ok 21) 21 (xVar 0)) (xVar 1)))
    (sSeq (sTgt (.tup [6, 7]) (xMeth c (G.mt 38) 32 (xFld 32 (G.ok 15) 15 (xDGet (xFld 32 (G.ok 20) 20 (xVar 0)) (xVar 3))) (aCons (xVar 2) (aNil))))
    (sSeq (sSet 4 (xMut (lComp (iVal (xVar 6)) (.name 8) none (xTup (aCons (xVar 1) (aCons (xVar 8) (aNil)))) [8])))
    (sSeq (sFor (iVal (xVar 7)) (.name 5) (sExpr (xExt (xVar 4) (xMeth c (G.mt 29) 32 (xVar 0) (aCons (xVar 3) (aCons (xVar 5) (aNil)))))))
    (sRet (xFrz (xVar 4))))))
def B_House_publish (G : G) (c : Calls) : SM := sSeq (sTgt (.tup [5, 6, 7, 8]) (xVar 2))
    (sSeq (sIf (xNot (xCall c 67 (aCons (xFld 32 (G.ok 19) 19 (xVar 0)) (aCons (xVar 1) (aCons (xVar 5) (aNil)))))) (sRet (xLst (lLst (aNil)))) (sSkip))
    (sSeq (sIf (xAnd (xVar 8) (xBin oEq (xVar 6) (xC (.str [])))) (sExpr (xDPop2 (xFld 32 (G.ok 25) 25 (xVar 0)) (xVar 5) (xC .non))) (sIf (xVar 8) (sDPut (xFld 32 (G.ok 25) 25 (xVar 0)) (xVar 5) (xTup (aCons (xVar 6) (aCons (xVar 7) (aNil))))) (sSkip)))
    (sSeq (sSet 3 (xMut (lLst (aNil))))
    (sSeq (sFor (iVal (xMeth c (G.mt 16) 32 (xFld 32 (G.ok 22) 22 (xVar 0)) (aCons (xVar 5) (aNil)))) (.tup [9, 10]) (sExpr (xExt (xVar 3) (xMeth c (G.mt 13) 32 (xVar 0) (aCons (xVar 9) (aCons (xVar 5) (aCons (xVar 6) (aCons (xB bMin2 (aCons (xVar 7) (aCons (xVar 10) (aNil)))) (aNil)))))))))
    (sSeq (sFor (iVal (xLst (lSortK (xFld 32 (G.ok 23) 23 (xVar 0))))) (.name 4) (sIf (xAnd (xDGet (xFld 32 (G.ok 23) 23 (xVar 0)) (xVar 4)) (xCall c 7 (aCons (xBin oIx (xVar 4) (xC (.int 1))) (aCons (xVar 5) (aNil))))) (sSeq (sSet 9 (xMeth c (G.mt 25) 32 (xVar 0) (aCons (xVar 4) (aNil))))
    (sSeq (sDPut (xFld 32 (G.ok 24) 24 (xVar 0)) (xVar 4) (xVar 9))
    (sExpr (xExt (xVar 3) (xMeth c (G.mt 13) 32 (xVar 0) (aCons (xVar 9) (aCons (xVar 5) (aCons (xVar 6) (aCons (xB bMin2 (aCons (xVar 7) (aCons (xDGet (xDGet (xFld 32 (G.ok 23) 23 (xVar 0)) (xVar 4)) (xVar 9)) (aNil)))) (aNil)))))))))) (sSkip)))
    (sRet (xFrz (xVar 3))))))))
def B_House_hand (G : G) (c : Calls) : SM := sSeq (sSet 5 (xDGet (xFld 32 (G.ok 20) 20 (xVar 0)) (xVar 1)))
    (sSeq (sIf (xBin oIs (xFld 32 (G.ok 16) 16 (xVar 5)) (xC .non)) (sSeq (sExpr (xMeth c (G.mt 20) 32 (xFld 32 (G.ok 14) 14 (xVar 5)) (aCons (xVar 2) (aCons (xVar 3) (aCons (xVar 4) (aCons (xC (.bl false)) (aNil)))))))
    (sRet (xLst (lLst (aNil))))) (sSkip))
    (sRet (xLst (lComp (iVal (xMeth c (G.mt 32) 32 (xFld 32 (G.ok 14) 14 (xVar 5)) (aCons (xVar 2) (aCons (xVar 3) (aCons (xVar 4) (aCons (xC (.bl false)) (aNil))))))) (.name 6) none (xTup (aCons (xFld 32 (G.ok 16) 16 (xVar 5)) (aCons (xVar 6) (aNil)))) [6]))))
def B_House_next_of (G : G) (c : Calls) : SM := sSeq (sSet 2 (xLst (lSortK (xDGet (xFld 32 (G.ok 23) 23 (xVar 0)) (xVar 1)))))
    (sSeq (sSet 3 (xOr (xLst (lComp (iVal (xVar 2)) (.name 5) (some (xBin oIsNot (xFld 32 (G.ok 16) 16 (xDGet (xFld 32 (G.ok 20) 20 (xVar 0)) (xVar 5))) (xC .non))) (xVar 5) [5])) (xVar 2)))
    (sSeq (sSet 4 (xLst (lComp (iVal (xVar 3)) (.name 5) (some (xBin oGt (xVar 5) (xDGet2 (xFld 32 (G.ok 24) 24 (xVar 0)) (xVar 1) (xC (.str []))))) (xVar 5) [5])))
    (sRet (xIf (xVar 4) (xBin oIx (xVar 4) (xC (.int 0))) (xBin oIx (xVar 3) (xC (.int 0)))))))
def B_House_is_granted (G : G) (c : Calls) : SM := sSeq (sSet 3 (xCall c 76 (aCons (xVar 2) (aNil))))
    (sSeq (sIf (xNot (xCall c 77 (aCons (xVar 2) (aNil)))) (sRet (xBin oIs (xCall c 74 (aCons (xFld 32 (G.ok 19) 19 (xVar 0)) (aCons (xVar 1) (aCons (xVar 2) (aNil))))) (xC .non))) (sSkip))
    (sSeq (sIf (xBin oIs (xVar 3) (xC .non)) (sRet (xC (.bl false))) (sSkip))
    (sSeq (sTry (sSeq (sExpr (xCall c 3 (aCons (xBin oIx (xVar 3) (xC (.int 0))) (aNil))))
    (sExpr (xCall c 2 (aCons (xBin oIx (xVar 3) (xC (.int 1))) (aNil))))) (G.tk 1) (hdNo (sRet (xC (.bl false)))))
    (sRet (xBin oIs (xCall c 74 (aCons (xFld 32 (G.ok 19) 19 (xVar 0)) (aCons (xVar 1) (aCons (xBin oIx (xVar 3) (xC (.int 1))) (aNil))))) (xC .non))))))
def B_House_wished (G : G) (c : Calls) : SM := sSeq (sSet 3 (xDGet (xFld 32 (G.ok 21) 21 (xVar 0)) (xVar 1)))
    (sSeq (sSet 4 (xMut (lLst (aNil))))
    (sSeq (sSet 5 (xMut (lLst (aNil))))
    (sSeq (sFor (iVal (xBin oIx (xVar 2) (xC (.int 2)))) (.tup [6, 7]) (sIf (xNot (xMeth c (G.mt 19) 32 (xVar 0) (aCons (xVar 3) (aCons (xVar 6) (aNil))))) (sExpr (xApp (xVar 4) (xC (.int 128)))) (sIf (xCall c 77 (aCons (xVar 6) (aNil))) (sSeq (sExpr (xApp (xVar 4) (xVar 7)))
    (sSeq (sIf (xDNotIn (xCall c 76 (aCons (xVar 6) (aNil))) (xFld 32 (G.ok 23) 23 (xVar 0))) (sDPut (xFld 32 (G.ok 23) 23 (xVar 0)) (xCall c 76 (aCons (xVar 6) (aNil))) (xDNew false)) (sSkip))
    (sDPut (xDGet (xFld 32 (G.ok 23) 23 (xVar 0)) (xCall c 76 (aCons (xVar 6) (aNil)))) (xVar 3) (xVar 7)))) (sSeq (sExpr (xApp (xVar 4) (xVar 7)))
    (sSeq (sExpr (xMeth c (G.mt 31) 32 (xFld 32 (G.ok 22) 22 (xVar 0)) (aCons (xVar 3) (aCons (xVar 6) (aCons (xVar 7) (aNil))))))
    (sExpr (xExt (xVar 5) (xMeth c (G.mt 33) 32 (xVar 0) (aCons (xVar 3) (aCons (xVar 6) (aCons (xVar 7) (aNil))))))))))))
    (sRet (xLst (lCat (xLst (lLst (aCons (xTup (aCons (xVar 1) (aCons (xTup (aCons (xC (.str [104, 101, 97, 114, 100])) (aCons (xBin oIx (xVar 2) (xC (.int 1))) (aCons (xTuple (xVar 4)) (aNil))))) (aNil)))) (aNil)))) (xLst (lComp (iVal (xVar 5)) (.name 8) none (xTup (aCons (xVar 1) (aCons (xVar 8) (aNil)))) [8]))))))))
def B_House_shelf_for (G : G) (c : Calls) : SM := sSeq (sSet 4 (xMut (lLst (aNil))))
    (sSeq (sFor (iVal (xMeth c (G.mt 21) 32 (xVar 0) aNil)) (.tup [5, 6, 7]) (sIf (xCall c 7 (aCons (xVar 2) (aCons (xVar 5) (aNil)))) (sExpr (xExt (xVar 4) (xMeth c (G.mt 32) 32 (xFld 32 (G.ok 14) 14 (xDGet (xFld 32 (G.ok 20) 20 (xVar 0)) (xVar 1))) (aCons (xVar 5) (aCons (xVar 6) (aCons (xB bMin2 (aCons (xVar 3) (aCons (xVar 7) (aNil)))) (aCons (xC (.bl true)) (aNil)))))))) (sSkip)))
    (sRet (xFrz (xVar 4))))
def B_House_unwish (G : G) (c : Calls) : SM := sIf (xCall c 77 (aCons (xVar 2) (aNil))) (sIf (xDIn (xCall c 76 (aCons (xVar 2) (aNil))) (xFld 32 (G.ok 23) 23 (xVar 0))) (sExpr (xDPop2 (xDGet (xFld 32 (G.ok 23) 23 (xVar 0)) (xCall c 76 (aCons (xVar 2) (aNil)))) (xVar 1) (xC .non))) (sSkip)) (sExpr (xMeth c (G.mt 7) 32 (xFld 32 (G.ok 22) 22 (xVar 0)) (aCons (xVar 1) (aCons (xVar 2) (aNil)))))
def B_House_wishes (G : G) (c : Calls) : SM := sSeq (sSet 2 (xMeth c (G.mt 43) 32 (xFld 32 (G.ok 22) 22 (xVar 0)) (aCons (xVar 1) (aNil))))
    (sSeq (sForK (xFld 32 (G.ok 23) 23 (xVar 0)) (.name 3) (sIf (xDIn (xVar 1) (xDGet (xFld 32 (G.ok 23) 23 (xVar 0)) (xVar 3))) (sExpr (xApp (xVar 2) (xTup (aCons (xBin oAdd (xBin oAdd (xBin oAdd (xBin oAdd (xC (.str [36, 115, 104, 97, 114, 101])) (xC (.str [47]))) (xBin oIx (xVar 3) (xC (.int 0)))) (xC (.str [47]))) (xBin oIx (xVar 3) (xC (.int 1)))) (aCons (xDGet (xDGet (xFld 32 (G.ok 23) 23 (xVar 0)) (xVar 3)) (xVar 1)) (aNil)))))) (sSkip)))
    (sRet (xLst (lSort (xVar 2)))))
def B_Hearer___init__ (G : G) (c : Calls) : SM := sSeq (sExpr (xCall c 3 (aCons (xVar 1) (aNil))))
    (sSeq (sExpr (xCall c 53 (aCons (xVar 2) (aCons (xVar 3) (aNil)))))
    (sSeq (sFld 32 (G.ok 26) 26 (xVar 0) (xVar 1))
    (sSeq (sFld 32 (G.ok 7) 7 (xVar 0) (xVar 2))
    (sSeq (sFld 32 (G.ok 8) 8 (xVar 0) (xVar 3))
    (sSeq (sFld 32 (G.ok 14) 14 (xVar 0) (xMake c 14 54 (aCons (xVar 2) (aCons (xVar 3) (aNil)))))
    (sSeq (sFld 32 (G.ok 15) 15 (xVar 0) (xMake c 15 63 aNil))
    (sSeq (sFld 32 (G.ok 27) 27 (xVar 0) (xC (.bl false)))
    (sSeq (sFld 32 (G.ok 28) 28 (xVar 0) (xC (.int 0)))
    (sSeq (sFld 32 (G.ok 4) 4 (xVar 0) (xMut (lLst (aNil))))
    (sFld 32 (G.ok 29) 29 (xVar 0) (xMut (lLst (aNil)))))))))))))
def B_Hearer_connect (G : G) (c : Calls) : SM := sSeq (sSet 3 (xTup (aCons (xC (.str [99, 111, 110, 110, 101, 99, 116])) (aCons (xFld 32 (G.ok 26) 26 (xVar 0)) (aCons (xVar 1) (aCons (xVar 2) (aNil)))))))
    (sSeq (sExpr (xCall c 32 (aCons (xVar 3) (aNil))))
    (sSeq (sFld 32 (G.ok 27) 27 (xVar 0) (xC (.bl false)))
    (sSeq (sIf (xVar 1) (sSeq (sFld 32 (G.ok 14) 14 (xVar 0) (xMake c 14 54 (aCons (xFld 32 (G.ok 7) 7 (xVar 0)) (aCons (xFld 32 (G.ok 8) 8 (xVar 0)) (aNil)))))
    (sFld 32 (G.ok 15) 15 (xVar 0) (xMake c 15 63 aNil))) (sSkip))
    (sRet (xLst (lLst (aCons (xVar 3) (aNil))))))))
def B_Hearer_lost (G : G) (c : Calls) : SM := sFld 32 (G.ok 27) 27 (xVar 0) (xC (.bl false))
def B_Hearer_leave (G : G) (c : Calls) : SM := sSeq (sSet 1 (xIf (xFld 32 (G.ok 27) 27 (xVar 0)) (xLst (lLst (aCons (xTup (aCons (xC (.str [108, 101, 97, 118, 101])) (aNil))) (aNil)))) (xLst (lLst (aNil)))))
    (sSeq (sFld 32 (G.ok 27) 27 (xVar 0) (xC (.bl false)))
    (sRet (xVar 1)))
def B_Hearer_say (G : G) (c : Calls) : SM := sSeq (sIf (xFld 32 (G.ok 27) 27 (xVar 0)) (sRet (xMeth c (G.mt 32) 32 (xFld 32 (G.ok 14) 14 (xVar 0)) (aCons (xVar 1) (aCons (xVar 2) (aCons (xVar 3) (aCons (xVar 4) (aNil))))))) (sSkip))
    (sSeq (sExpr (xMeth c (G.mt 20) 32 (xFld 32 (G.ok 14) 14 (xVar 0)) (aCons (xVar 1) (aCons (xVar 2) (aCons (xVar 3) (aCons (xVar 4) (aNil)))))))
    (sRet (xLst (lLst (aNil)))))
def B_Hearer_ask (G : G) (c : Calls) : SM := sSeq (sSet 3 (xTup (aCons (xVar 1) (aCons (xBin oAdd (xC (.int 1)) (xFld 32 (G.ok 28) 28 (xVar 0))) (aCons (xTuple (xVar 2)) (aNil))))))
    (sSeq (sExpr (xCall c 32 (aCons (xVar 3) (aNil))))
    (sSeq (sIf (xNot (xFld 32 (G.ok 27) 27 (xVar 0))) (sRet (xLst (lLst (aNil)))) (sSkip))
    (sSeq (sFld 32 (G.ok 28) 28 (xVar 0) (xIf (xBin oLt (xBin oIx (xVar 3) (xC (.int 1))) (xFld 32 (G.ok 8) 8 (xVar 0))) (xBin oIx (xVar 3) (xC (.int 1))) (xC (.int 0))))
    (sRet (xLst (lLst (aCons (xVar 3) (aNil))))))))
def B_Hearer_hear (G : G) (c : Calls) : SM := sRet (xMeth c (G.mt 1) 32 (xVar 0) (aCons (xC (.str [104, 101, 97, 114])) (aCons (xVar 1) (aNil))))
def B_Hearer_drop (G : G) (c : Calls) : SM := sRet (xMeth c (G.mt 1) 32 (xVar 0) (aCons (xC (.str [100, 114, 111, 112])) (aCons (xVar 1) (aNil))))
def B_Hearer_took (G : G) (c : Calls) : SM := sSeq (sExpr (xCall c 32 (aCons (xVar 1) (aNil))))
    (sSeq (sSet 2 (xBin oIx (xVar 1) (xC (.int 0))))
    (sSeq (sIf (xBin oEq (xVar 2) (xC (.str [103, 114, 101, 101, 116, 101, 100]))) (sSeq (sFld 32 (G.ok 27) 27 (xVar 0) (xC (.bl true)))
    (sSeq (sIf (xNot (xBin oIx (xVar 1) (xC (.int 1)))) (sFld 32 (G.ok 15) 15 (xVar 0) (xMake c 15 63 aNil)) (sSkip))
    (sRet (xMeth c (G.mt 0) 32 (xFld 32 (G.ok 14) 14 (xVar 0)) aNil)))) (sSkip))
    (sSeq (sIf (xBin oIn (xVar 2) (xTup (aCons (xC (.str [115, 97, 121])) (aCons (xC (.str [102, 114, 101, 101])) (aNil))))) (sSeq (sTgt (.tup [3, 4]) (xMeth c (G.mt 38) 32 (xFld 32 (G.ok 15) 15 (xVar 0)) (aCons (xVar 1) (aNil))))
    (sSeq (sExpr (xExt (xFld 32 (G.ok 4) 4 (xVar 0)) (xVar 4)))
    (sRet (xVar 3)))) (sSkip))
    (sSeq (sIf (xBin oIn (xVar 2) (xTup (aCons (xC (.str [103, 111, 116])) (aCons (xC (.str [104, 101, 108, 100])) (aCons (xC (.str [100, 111, 110, 101])) (aNil)))))) (sRet (xMeth c (G.mt 38) 32 (xFld 32 (G.ok 14) 14 (xVar 0)) (aCons (xVar 1) (aNil)))) (sSkip))
    (sSeq (sIf (xBin oEq (xVar 2) (xC (.str [104, 101, 97, 114, 100]))) (sExpr (xApp (xFld 32 (G.ok 29) 29 (xVar 0)) (xBin oIx (xVar 1) (xC (.int 2))))) (sSkip))
    (sRet (xLst (lLst (aNil)))))))))
def B_Hearer_heard (G : G) (c : Calls) : SM := sRet (xLst (lList (xFld 32 (G.ok 4) 4 (xVar 0))))
def B_Hearer_granted (G : G) (c : Calls) : SM := sRet (xLst (lList (xFld 32 (G.ok 29) 29 (xVar 0))))
def B_Hearer_many (G : G) (c : Calls) : SM := sRet (xMeth c (G.mt 24) 32 (xFld 32 (G.ok 14) 14 (xVar 0)) aNil)
def B_packed (G : G) (c : Calls) : SM := sSeq (sIf (xBin oIs (xVar 0) (xC .non)) (sRet (xC (.str [111]))) (sSkip))
    (sSeq (sIf (xIsi (isiT 1) (xVar 0)) (sRet (xIf (xVar 0) (xC (.str [121])) (xC (.str [122])))) (sSkip))
    (sSeq (sIf (xIsi (isiT 2) (xVar 0)) (sRet (xBin oAdd (xBin oAdd (xC (.str [110])) (xB bStr (aCons (xVar 0) (aNil)))) (xC (.str [59])))) (sSkip))
    (sSeq (sIf (xIsi (isiT 3) (xVar 0)) (sRet (xBin oAdd (xBin oAdd (xBin oAdd (xC (.str [116])) (xB bStr (aCons (xB bLen (aCons (xVar 0) (aNil))) (aNil)))) (xC (.str [59]))) (xVar 0))) (sSkip))
    (sRet (xBin oAdd (xBin oAdd (xC (.str [40])) (xBm isStr oJoin (xC (.str [])) (xLst (lComp (iVal (xVar 0)) (.name 1) none (xCall c 108 (aCons (xVar 1) (aNil))) [1])))) (xC (.str [41])))))))
def B_Signs___init__ (G : G) (c : Calls) : SM := sSeq (sFld 32 (G.ok 30) 30 (xVar 0) (xVar 1))
    (sFld 32 (G.ok 31) 31 (xVar 0) (xC (.int 0)))
def B_Signs_take (G : G) (c : Calls) : SM := sSeq (sIf (xBin oGt (xBin oAdd (xFld 32 (G.ok 31) 31 (xVar 0)) (xVar 1)) (xB bLen (aCons (xFld 32 (G.ok 30) 30 (xVar 0)) (aNil)))) (sRaise 5) (sSkip))
    (sSeq (sFld 32 (G.ok 31) 31 (xVar 0) (xBin oAdd (xFld 32 (G.ok 31) 31 (xVar 0)) (xVar 1)))
    (sRet (xSl (xFld 32 (G.ok 30) 30 (xVar 0)) (some (xBin oSub (xFld 32 (G.ok 31) 31 (xVar 0)) (xVar 1))) (some (xFld 32 (G.ok 31) 31 (xVar 0))))))
def B_Signs_number (G : G) (c : Calls) : SM := sSeq (sSet 1 (xMeth c (G.mt 35) 32 (xVar 0) (aCons (xB bMax2 (aCons (xC (.int 0)) (aCons (xBin oSub (xFind (xFld 32 (G.ok 30) 30 (xVar 0)) (xC (.str [59])) (xFld 32 (G.ok 31) 31 (xVar 0))) (xFld 32 (G.ok 31) 31 (xVar 0))) (aNil)))) (aNil))))
    (sSeq (sExpr (xMeth c (G.mt 35) 32 (xVar 0) (aCons (xC (.int 1)) (aNil))))
    (sSeq (sSet 2 (xIf (xBm isStr oStarts (xVar 1) (xC (.str [45]))) (xSl (xVar 1) (some (xC (.int 1))) none) (xVar 1)))
    (sSeq (sIf (xOr (xNot (xChain oLe oLe (xC (.int 1)) (xB bLen (aCons (xVar 2) (aNil))) (xC (.int 15)))) (xNot (xB bAll (aCons (xLst (lComp (iVal (xVar 2)) (.name 3) none (xBin oIn (xVar 3) (xC (.str [48, 49, 50, 51, 52, 53, 54, 55, 56, 57]))) [3])) (aNil))))) (sRaise 5) (sSkip))
    (sRet (xB bInt (aCons (xVar 1) (aNil)))))))
def B_Signs_unpacked (G : G) (c : Calls) : SM := sSeq (sSet 1 (xMeth c (G.mt 35) 32 (xVar 0) (aCons (xC (.int 1)) (aNil))))
    (sSeq (sIf (xBin oEq (xVar 1) (xC (.str [111]))) (sRet (xC .non)) (sSkip))
    (sSeq (sIf (xBin oIn (xVar 1) (xC (.str [121, 122]))) (sRet (xBin oEq (xVar 1) (xC (.str [121])))) (sSkip))
    (sSeq (sIf (xBin oEq (xVar 1) (xC (.str [110]))) (sRet (xMeth c (G.mt 27) 32 (xVar 0) aNil)) (sSkip))
    (sSeq (sIf (xBin oEq (xVar 1) (xC (.str [116]))) (sRet (xMeth c (G.mt 35) 32 (xVar 0) (aCons (xB bMax2 (aCons (xC (.int 0)) (aCons (xMeth c (G.mt 27) 32 (xVar 0) aNil) (aNil)))) (aNil)))) (sSkip))
    (sSeq (sIf (xBin oNe (xVar 1) (xC (.str [40]))) (sRaise 5) (sSkip))
    (sSeq (sSet 2 (xMut (lLst (aNil))))
    (sSeq (sWhile (xBin oNe (xSl (xFld 32 (G.ok 30) 30 (xVar 0)) (some (xFld 32 (G.ok 31) 31 (xVar 0))) (some (xBin oAdd (xFld 32 (G.ok 31) 31 (xVar 0)) (xC (.int 1))))) (xC (.str [41]))) (sExpr (xApp (xVar 2) (xMeth c (G.mt 39) 32 (xVar 0) aNil))))
    (sSeq (sExpr (xMeth c (G.mt 35) 32 (xVar 0) (aCons (xC (.int 1)) (aNil))))
    (sRet (xTuple (xVar 2)))))))))))
def B_session_row (G : G) (c : Calls) : SM := sSeq (sSet 2 (xFld 32 (G.ok 14) 14 (xVar 1)))
    (sSeq (sSet 3 (xTup (aCons (xVar 0) (aCons (xFld 32 (G.ok 16) 16 (xVar 1)) (aCons (xFld 32 (G.ok 17) 17 (xVar 1)) (aCons (xFld 32 (G.ok 18) 18 (xVar 1)) (aCons (xFld 32 (G.ok 12) 12 (xFld 32 (G.ok 15) 15 (xVar 1))) (aNil))))))))
    (sRet (xBin oAdd (xVar 3) (xTup (aCons (xFld 32 (G.ok 9) 9 (xVar 2)) (aCons (xFld 32 (G.ok 10) 10 (xVar 2)) (aCons (xFld 32 (G.ok 11) 11 (xVar 2)) (aNil))))))))
def B_written_house (G : G) (c : Calls) : SM := sSeq (sSet 1 (xLst (lComp (iVal (xLst (lSortK (xFld 32 (G.ok 20) 20 (xVar 0))))) (.name 6) none (xCall c 113 (aCons (xVar 6) (aCons (xDGet (xFld 32 (G.ok 20) 20 (xVar 0)) (xVar 6)) (aNil)))) [6])))
    (sSeq (sSet 2 (xLst (lComp (iVal (xLst (lSortK (xFld 32 (G.ok 3) 3 (xFld 32 (G.ok 22) 22 (xVar 0)))))) (.name 7) none (xTup (aCons (xBin oIx (xVar 7) (xC (.int 0))) (aCons (xBin oIx (xVar 7) (xC (.int 1))) (aCons (xDGet (xFld 32 (G.ok 3) 3 (xFld 32 (G.ok 22) 22 (xVar 0))) (xVar 7)) (aNil))))) [7])))
    (sSeq (sSet 3 (xMut (lLst (aNil))))
    (sSeq (sFor (iVal (xLst (lSortK (xFld 32 (G.ok 23) 23 (xVar 0))))) (.name 4) (sSeq (sSet 5 (xLst (lComp (iVal (xLst (lSortK (xDGet (xFld 32 (G.ok 23) 23 (xVar 0)) (xVar 4))))) (.name 6) none (xTup (aCons (xVar 6) (aCons (xDGet (xDGet (xFld 32 (G.ok 23) 23 (xVar 0)) (xVar 4)) (xVar 6)) (aNil)))) [6])))
    (sExpr (xApp (xVar 3) (xTup (aCons (xVar 4) (aCons (xVar 5) (aCons (xDGet2 (xFld 32 (G.ok 24) 24 (xVar 0)) (xVar 4) (xC .non)) (aNil)))))))))
    (sRet (xCall c 108 (aCons (xTup (aCons (xFld 32 (G.ok 7) 7 (xVar 0)) (aCons (xFld 32 (G.ok 8) 8 (xVar 0)) (aCons (xFld 32 (G.ok 19) 19 (xVar 0)) (aCons (xVar 1) (aCons (xVar 2) (aCons (xVar 3) (aCons (xMeth c (G.mt 21) 32 (xVar 0) aNil) (aNil))))))))) (aNil)))))))
def B_woken_session (G : G) (c : Calls) : SM := sSeq (sTgt (.tup [3, 4, 5, 6, 7, 8, 9, 10]) (xVar 1))
    (sSeq (sSet 2 (xMake c 17 75 (aCons (xFld 32 (G.ok 7) 7 (xVar 0)) (aCons (xFld 32 (G.ok 8) 8 (xVar 0)) (aNil)))))
    (sSeq (sFld 32 (G.ok 16) 16 (xVar 2) (xVar 4))
    (sSeq (sFld 32 (G.ok 17) 17 (xVar 2) (xVar 5))
    (sSeq (sFld 32 (G.ok 18) 18 (xVar 2) (xVar 6))
    (sSeq (sFld 32 (G.ok 12) 12 (xFld 32 (G.ok 15) 15 (xVar 2)) (xMut (lList (xVar 7))))
    (sSeq (sFld 32 (G.ok 9) 9 (xFld 32 (G.ok 14) 14 (xVar 2)) (xVar 8))
    (sSeq (sFld 32 (G.ok 10) 10 (xFld 32 (G.ok 14) 14 (xVar 2)) (xMut (lList (xVar 9))))
    (sSeq (sFld 32 (G.ok 11) 11 (xFld 32 (G.ok 14) 14 (xVar 2)) (xMut (lList (xVar 10))))
    (sSeq (sDPut (xFld 32 (G.ok 20) 20 (xVar 0)) (xVar 3) (xVar 2))
    (sIf (xBin oIsNot (xVar 4) (xC .non)) (sDPut (xFld 32 (G.ok 21) 21 (xVar 0)) (xVar 4) (xVar 3)) (sSkip)))))))))))
def B_woken_house (G : G) (c : Calls) : SM := sSeq (sTgt (.tup [3, 4, 5, 6, 7, 8, 9]) (xMeth c (G.mt 39) 32 (xMake c 20 109 (aCons (xVar 0) (aNil))) aNil))
    (sSeq (sSet 1 (xMake c 18 78 (aCons (xVar 3) (aCons (xVar 4) (aCons (xLst (lList (xVar 5))) (aNil))))))
    (sSeq (sFor (iVal (xVar 6)) (.name 2) (sExpr (xCall c 115 (aCons (xVar 1) (aCons (xVar 2) (aNil))))))
    (sSeq (sFor (iVal (xVar 7)) (.tup [10, 11, 12]) (sExpr (xMeth c (G.mt 31) 32 (xFld 32 (G.ok 22) 22 (xVar 1)) (aCons (xVar 10) (aCons (xVar 11) (aCons (xVar 12) (aNil)))))))
    (sSeq (sFor (iVal (xVar 8)) (.tup [13, 14, 15]) (sSeq (sDPut (xFld 32 (G.ok 23) 23 (xVar 1)) (xVar 13) (xDNew false))
    (sSeq (sFor (iVal (xVar 14)) (.tup [10, 12]) (sDPut (xDGet (xFld 32 (G.ok 23) 23 (xVar 1)) (xVar 13)) (xVar 10) (xVar 12)))
    (sIf (xBin oIsNot (xVar 15) (xC .non)) (sDPut (xFld 32 (G.ok 24) 24 (xVar 1)) (xVar 13) (xVar 15)) (sSkip)))))
    (sSeq (sFor (iVal (xVar 9)) (.tup [16, 17, 12]) (sDPut (xFld 32 (G.ok 25) 25 (xVar 1)) (xVar 16) (xTup (aCons (xVar 17) (aCons (xVar 12) (aNil))))))
    (sRet (xVar 1)))))))
def bodies (G : G) (c : Calls) : Nat → List D → St → RE
  | 0 => body 1 2 (B_is_level G c)
  | 1 => body 1 3 (B_look_name G c)
  | 2 => body 1 4 (B_look_wish G c)
  | 3 => body 1 2 (B_look_hearer G c)
  | 4 => body 1 1 (B_look_grade G c)
  | 5 => body 1 1 (B_is_wide G c)
  | 6 => body 2 2 (B_fits_levels G c)
  | 7 => body 2 3 (B_fits G c)
  | 8 => body 2 2 (B_covers_levels G c)
  | 9 => body 2 4 (B_covers G c)
  | 10 => body 1 2 (B_plain_levels G c)
  | 11 => body 2 4 (B_both_levels G c)
  | 12 => body 2 5 (B_meeting G c)
  | 13 => body 1 1 (B_Node___init__ G c)
  | 14 => body 1 1 (B_Book___init__ G c)
  | 15 => body 2 4 (B_Book_node G c)
  | 16 => body 4 5 (B_Book_put G c)
  | 17 => body 3 3 (B_Book_drop G c)
  | 18 => body 2 4 (B_Book_wishes G c)
  | 19 => body 2 5 (B_Book_leave G c)
  | 20 => body 1 1 (B_Book_size G c)
  | 21 => body 5 5 (B_Book_collect G c)
  | 22 => body 3 4 (B_Book_take G c)
  | 23 => body 2 4 (B_Book_hears G c)
  | 24 => body 1 2 (B_kind_number G c)
  | 25 => body 1 1 (B_must G c)
  | 26 => body 1 2 (B_is_body G c)
  | 27 => body 1 1 (B_is_id G c)
  | 28 => body 4 4 (B_look_tiding G c)
  | 29 => body 1 1 (B_look_say G c)
  | 30 => body 1 2 (B_look_some G c)
  | 31 => body 1 2 (B_look_whole G c)
  | 32 => body 1 1 (B_look_packet G c)
  | 33 => body 1 1 (B_id_bytes G c)
  | 34 => body 1 2 (B_text_bytes G c)
  | 35 => body 1 3 (B_will_bytes G c)
  | 36 => body 1 6 (B_rest_bytes G c)
  | 37 => body 1 1 (B_length_bytes G c)
  | 38 => body 1 3 (B_written_packet G c)
  | 39 => body 2 2 (B_Bytes___init__ G c)
  | 40 => body 1 1 (B_Bytes_is_end G c)
  | 41 => body 1 1 (B_Bytes_byte G c)
  | 42 => body 1 2 (B_Bytes_number G c)
  | 43 => body 2 5 (B_Bytes_text G c)
  | 44 => body 1 1 (B_Bytes_counted G c)
  | 45 => body 1 5 (B_read_connect G c)
  | 46 => body 2 6 (B_read_say G c)
  | 47 => body 2 5 (B_read_some G c)
  | 48 => body 3 3 (B_read_rest G c)
  | 49 => body 1 2 (B_head_of G c)
  | 50 => body 1 5 (B_read_packet G c)
  | 51 => body 1 1 (B_Pieces___init__ G c)
  | 52 => body 2 4 (B_Pieces_feed G c)
  | 53 => body 2 2 (B_look_ends G c)
  | 54 => body 3 3 (B_Giver___init__ G c)
  | 55 => body 1 3 (B_Giver_number G c)
  | 56 => body 1 7 (B_Giver_pump G c)
  | 57 => body 5 5 (B_Giver_keep G c)
  | 58 => body 5 5 (B_Giver_say G c)
  | 59 => body 3 5 (B_Giver_place_of G c)
  | 60 => body 2 5 (B_Giver_took G c)
  | 61 => body 1 5 (B_Giver_again G c)
  | 62 => body 1 1 (B_Giver_many G c)
  | 63 => body 1 1 (B_Taker___init__ G c)
  | 64 => body 2 4 (B_Taker_took G c)
  | 65 => body 1 2 (B_look_rules G c)
  | 66 => body 3 4 (B_rules_of G c)
  | 67 => body 3 5 (B_may_say G c)
  | 68 => body 3 6 (B_stepped G c)
  | 69 => body 1 3 (B_is_let_here G c)
  | 70 => body 3 8 (B_choices G c)
  | 71 => body 1 1 (B_Search___init__ G c)
  | 72 => body 4 5 (B_Search_go G c)
  | 73 => body 4 8 (B_Search_found G c)
  | 74 => body 3 7 (B_may_hear G c)
  | 75 => body 3 3 (B_Session___init__ G c)
  | 76 => body 1 2 (B_group_of G c)
  | 77 => body 1 1 (B_is_share G c)
  | 78 => body 4 4 (B_House___init__ G c)
  | 79 => body 1 2 (B_House_here G c)
  | 80 => body 1 2 (B_House_kept G c)
  | 81 => body 2 2 (B_House_waits G c)
  | 82 => body 3 7 (B_House_took G c)
  | 83 => body 3 11 (B_House_connect G c)
  | 84 => body 2 2 (B_House_close G c)
  | 85 => body 2 5 (B_House_lost G c)
  | 86 => body 2 3 (B_House_forget G c)
  | 87 => body 3 9 (B_House_taken G c)
  | 88 => body 3 11 (B_House_publish G c)
  | 89 => body 5 7 (B_House_hand G c)
  | 90 => body 2 6 (B_House_next_of G c)
  | 91 => body 3 4 (B_House_is_granted G c)
  | 92 => body 3 9 (B_House_wished G c)
  | 93 => body 4 8 (B_House_shelf_for G c)
  | 94 => body 3 3 (B_House_unwish G c)
  | 95 => body 2 4 (B_House_wishes G c)
  | 96 => body 4 4 (B_Hearer___init__ G c)
  | 97 => body 3 4 (B_Hearer_connect G c)
  | 98 => body 1 1 (B_Hearer_lost G c)
  | 99 => body 1 2 (B_Hearer_leave G c)
  | 100 => body 5 5 (B_Hearer_say G c)
  | 101 => body 3 4 (B_Hearer_ask G c)
  | 102 => body 2 2 (B_Hearer_hear G c)
  | 103 => body 2 2 (B_Hearer_drop G c)
  | 104 => body 2 5 (B_Hearer_took G c)
  | 105 => body 1 1 (B_Hearer_heard G c)
  | 106 => body 1 1 (B_Hearer_granted G c)
  | 107 => body 1 1 (B_Hearer_many G c)
  | 108 => body 1 2 (B_packed G c)
  | 109 => body 2 2 (B_Signs___init__ G c)
  | 110 => body 2 2 (B_Signs_take G c)
  | 111 => body 1 4 (B_Signs_number G c)
  | 112 => body 1 3 (B_Signs_unpacked G c)
  | 113 => body 2 4 (B_session_row G c)
  | 114 => body 1 8 (B_written_house G c)
  | 115 => body 2 11 (B_woken_session G c)
  | 116 => body 1 18 (B_woken_house G c)
  | _ => fun _ _ => .stuck
/-- a law's run has the program's bodies below 200 -/
structure Run (G : G) (R : Nat → Calls) : Prop where
  step : ∀ k n, n < 200 → R (k + 1) n = bodies G (R k) n
abbrev i_is_level : Nat := 0
abbrev i_look_name : Nat := 1
abbrev i_look_wish : Nat := 2
abbrev i_look_hearer : Nat := 3
abbrev i_look_grade : Nat := 4
abbrev i_is_wide : Nat := 5
abbrev i_fits_levels : Nat := 6
abbrev i_fits : Nat := 7
abbrev i_covers_levels : Nat := 8
abbrev i_covers : Nat := 9
abbrev i_plain_levels : Nat := 10
abbrev i_both_levels : Nat := 11
abbrev i_meeting : Nat := 12
abbrev i_Node___init__ : Nat := 13
abbrev i_Book___init__ : Nat := 14
abbrev i_Book_node : Nat := 15
abbrev i_Book_put : Nat := 16
abbrev i_Book_drop : Nat := 17
abbrev i_Book_wishes : Nat := 18
abbrev i_Book_leave : Nat := 19
abbrev i_Book_size : Nat := 20
abbrev i_Book_collect : Nat := 21
abbrev i_Book_take : Nat := 22
abbrev i_Book_hears : Nat := 23
abbrev i_kind_number : Nat := 24
abbrev i_must : Nat := 25
abbrev i_is_body : Nat := 26
abbrev i_is_id : Nat := 27
abbrev i_look_tiding : Nat := 28
abbrev i_look_say : Nat := 29
abbrev i_look_some : Nat := 30
abbrev i_look_whole : Nat := 31
abbrev i_look_packet : Nat := 32
abbrev i_id_bytes : Nat := 33
abbrev i_text_bytes : Nat := 34
abbrev i_will_bytes : Nat := 35
abbrev i_rest_bytes : Nat := 36
abbrev i_length_bytes : Nat := 37
abbrev i_written_packet : Nat := 38
abbrev i_Bytes___init__ : Nat := 39
abbrev i_Bytes_is_end : Nat := 40
abbrev i_Bytes_byte : Nat := 41
abbrev i_Bytes_number : Nat := 42
abbrev i_Bytes_text : Nat := 43
abbrev i_Bytes_counted : Nat := 44
abbrev i_read_connect : Nat := 45
abbrev i_read_say : Nat := 46
abbrev i_read_some : Nat := 47
abbrev i_read_rest : Nat := 48
abbrev i_head_of : Nat := 49
abbrev i_read_packet : Nat := 50
abbrev i_Pieces___init__ : Nat := 51
abbrev i_Pieces_feed : Nat := 52
abbrev i_look_ends : Nat := 53
abbrev i_Giver___init__ : Nat := 54
abbrev i_Giver_number : Nat := 55
abbrev i_Giver_pump : Nat := 56
abbrev i_Giver_keep : Nat := 57
abbrev i_Giver_say : Nat := 58
abbrev i_Giver_place_of : Nat := 59
abbrev i_Giver_took : Nat := 60
abbrev i_Giver_again : Nat := 61
abbrev i_Giver_many : Nat := 62
abbrev i_Taker___init__ : Nat := 63
abbrev i_Taker_took : Nat := 64
abbrev i_look_rules : Nat := 65
abbrev i_rules_of : Nat := 66
abbrev i_may_say : Nat := 67
abbrev i_stepped : Nat := 68
abbrev i_is_let_here : Nat := 69
abbrev i_choices : Nat := 70
abbrev i_Search___init__ : Nat := 71
abbrev i_Search_go : Nat := 72
abbrev i_Search_found : Nat := 73
abbrev i_may_hear : Nat := 74
abbrev i_Session___init__ : Nat := 75
abbrev i_group_of : Nat := 76
abbrev i_is_share : Nat := 77
abbrev i_House___init__ : Nat := 78
abbrev i_House_here : Nat := 79
abbrev i_House_kept : Nat := 80
abbrev i_House_waits : Nat := 81
abbrev i_House_took : Nat := 82
abbrev i_House_connect : Nat := 83
abbrev i_House_close : Nat := 84
abbrev i_House_lost : Nat := 85
abbrev i_House_forget : Nat := 86
abbrev i_House_taken : Nat := 87
abbrev i_House_publish : Nat := 88
abbrev i_House_hand : Nat := 89
abbrev i_House_next_of : Nat := 90
abbrev i_House_is_granted : Nat := 91
abbrev i_House_wished : Nat := 92
abbrev i_House_shelf_for : Nat := 93
abbrev i_House_unwish : Nat := 94
abbrev i_House_wishes : Nat := 95
abbrev i_Hearer___init__ : Nat := 96
abbrev i_Hearer_connect : Nat := 97
abbrev i_Hearer_lost : Nat := 98
abbrev i_Hearer_leave : Nat := 99
abbrev i_Hearer_say : Nat := 100
abbrev i_Hearer_ask : Nat := 101
abbrev i_Hearer_hear : Nat := 102
abbrev i_Hearer_drop : Nat := 103
abbrev i_Hearer_took : Nat := 104
abbrev i_Hearer_heard : Nat := 105
abbrev i_Hearer_granted : Nat := 106
abbrev i_Hearer_many : Nat := 107
abbrev i_packed : Nat := 108
abbrev i_Signs___init__ : Nat := 109
abbrev i_Signs_take : Nat := 110
abbrev i_Signs_number : Nat := 111
abbrev i_Signs_unpacked : Nat := 112
abbrev i_session_row : Nat := 113
abbrev i_written_house : Nat := 114
abbrev i_woken_session : Nat := 115
abbrev i_woken_house : Nat := 116
abbrev c_Node : Nat := 10
abbrev c_Book : Nat := 11
abbrev c_Bytes : Nat := 12
abbrev c_Pieces : Nat := 13
abbrev c_Giver : Nat := 14
abbrev c_Taker : Nat := 15
abbrev c_Search : Nat := 16
abbrev c_Session : Nat := 17
abbrev c_House : Nat := 18
abbrev c_Hearer : Nat := 19
abbrev c_Signs : Nat := 20
abbrev f_below : Nat := 0
abbrev f_hearers : Nat := 1
abbrev f_top : Nat := 2
abbrev f_rows : Nat := 3
abbrev f_row : Nat := 4
abbrev f_spot : Nat := 5
abbrev f_is_bad : Nat := 6
abbrev f_window : Nat := 7
abbrev f_most : Nat := 8
abbrev f_last : Nat := 9
abbrev f_waiting : Nat := 10
abbrev f_flying : Nat := 11
abbrev f_numbers : Nat := 12
abbrev f_known : Nat := 13
abbrev f_giver : Nat := 14
abbrev f_taker : Nat := 15
abbrev f_line : Nat := 16
abbrev f_is_clean : Nat := 17
abbrev f_will : Nat := 18
abbrev f_rules : Nat := 19
abbrev f_sessions : Nat := 20
abbrev f_lines : Nat := 21
abbrev f_book : Nat := 22
abbrev f_groups : Nat := 23
abbrev f_turns : Nat := 24
abbrev f_shelf : Nat := 25
abbrev f_name : Nat := 26
abbrev f_is_on : Nat := 27
abbrev f_asked : Nat := 28
abbrev f_grants : Nat := 29
abbrev f_whole : Nat := 30
abbrev f_at : Nat := 31
abbrev m_again : Nat := 0
abbrev m_ask : Nat := 1
abbrev m_byte : Nat := 2
abbrev m_close : Nat := 3
abbrev m_collect : Nat := 4
abbrev m_connect : Nat := 5
abbrev m_counted : Nat := 6
abbrev m_drop : Nat := 7
abbrev m_feed : Nat := 8
abbrev m_forget : Nat := 9
abbrev m_found : Nat := 10
abbrev m_go : Nat := 11
abbrev m_granted : Nat := 12
abbrev m_hand : Nat := 13
abbrev m_hear : Nat := 14
abbrev m_heard : Nat := 15
abbrev m_hears : Nat := 16
abbrev m_here : Nat := 17
abbrev m_is_end : Nat := 18
abbrev m_is_granted : Nat := 19
abbrev m_keep : Nat := 20
abbrev m_kept : Nat := 21
abbrev m_leave : Nat := 22
abbrev m_lost : Nat := 23
abbrev m_many : Nat := 24
abbrev m_next_of : Nat := 25
abbrev m_node : Nat := 26
abbrev m_number : Nat := 27
abbrev m_place_of : Nat := 28
abbrev m_publish : Nat := 29
abbrev m_pump : Nat := 30
abbrev m_put : Nat := 31
abbrev m_say : Nat := 32
abbrev m_shelf_for : Nat := 33
abbrev m_size : Nat := 34
abbrev m_take : Nat := 35
abbrev m_taken : Nat := 36
abbrev m_text : Nat := 37
abbrev m_took : Nat := 38
abbrev m_unpacked : Nat := 39
abbrev m_unwish : Nat := 40
abbrev m_waits : Nat := 41
abbrev m_wished : Nat := 42
abbrev m_wishes : Nat := 43
abbrev nf : Nat := 32
theorem eq_is_level {G : G} {R : Nat → Calls} (h : Run G R) (k : Nat) : R (k + 1) 0 = body 1 2 (B_is_level G (R k)) := h.step k 0 (by decide)
theorem eq_look_name {G : G} {R : Nat → Calls} (h : Run G R) (k : Nat) : R (k + 1) 1 = body 1 3 (B_look_name G (R k)) := h.step k 1 (by decide)
theorem eq_look_wish {G : G} {R : Nat → Calls} (h : Run G R) (k : Nat) : R (k + 1) 2 = body 1 4 (B_look_wish G (R k)) := h.step k 2 (by decide)
theorem eq_look_hearer {G : G} {R : Nat → Calls} (h : Run G R) (k : Nat) : R (k + 1) 3 = body 1 2 (B_look_hearer G (R k)) := h.step k 3 (by decide)
theorem eq_look_grade {G : G} {R : Nat → Calls} (h : Run G R) (k : Nat) : R (k + 1) 4 = body 1 1 (B_look_grade G (R k)) := h.step k 4 (by decide)
theorem eq_is_wide {G : G} {R : Nat → Calls} (h : Run G R) (k : Nat) : R (k + 1) 5 = body 1 1 (B_is_wide G (R k)) := h.step k 5 (by decide)
theorem eq_fits_levels {G : G} {R : Nat → Calls} (h : Run G R) (k : Nat) : R (k + 1) 6 = body 2 2 (B_fits_levels G (R k)) := h.step k 6 (by decide)
theorem eq_fits {G : G} {R : Nat → Calls} (h : Run G R) (k : Nat) : R (k + 1) 7 = body 2 3 (B_fits G (R k)) := h.step k 7 (by decide)
theorem eq_covers_levels {G : G} {R : Nat → Calls} (h : Run G R) (k : Nat) : R (k + 1) 8 = body 2 2 (B_covers_levels G (R k)) := h.step k 8 (by decide)
theorem eq_covers {G : G} {R : Nat → Calls} (h : Run G R) (k : Nat) : R (k + 1) 9 = body 2 4 (B_covers G (R k)) := h.step k 9 (by decide)
theorem eq_plain_levels {G : G} {R : Nat → Calls} (h : Run G R) (k : Nat) : R (k + 1) 10 = body 1 2 (B_plain_levels G (R k)) := h.step k 10 (by decide)
theorem eq_both_levels {G : G} {R : Nat → Calls} (h : Run G R) (k : Nat) : R (k + 1) 11 = body 2 4 (B_both_levels G (R k)) := h.step k 11 (by decide)
theorem eq_meeting {G : G} {R : Nat → Calls} (h : Run G R) (k : Nat) : R (k + 1) 12 = body 2 5 (B_meeting G (R k)) := h.step k 12 (by decide)
theorem eq_Node___init__ {G : G} {R : Nat → Calls} (h : Run G R) (k : Nat) : R (k + 1) 13 = body 1 1 (B_Node___init__ G (R k)) := h.step k 13 (by decide)
theorem eq_Book___init__ {G : G} {R : Nat → Calls} (h : Run G R) (k : Nat) : R (k + 1) 14 = body 1 1 (B_Book___init__ G (R k)) := h.step k 14 (by decide)
theorem eq_Book_node {G : G} {R : Nat → Calls} (h : Run G R) (k : Nat) : R (k + 1) 15 = body 2 4 (B_Book_node G (R k)) := h.step k 15 (by decide)
theorem eq_Book_put {G : G} {R : Nat → Calls} (h : Run G R) (k : Nat) : R (k + 1) 16 = body 4 5 (B_Book_put G (R k)) := h.step k 16 (by decide)
theorem eq_Book_drop {G : G} {R : Nat → Calls} (h : Run G R) (k : Nat) : R (k + 1) 17 = body 3 3 (B_Book_drop G (R k)) := h.step k 17 (by decide)
theorem eq_Book_wishes {G : G} {R : Nat → Calls} (h : Run G R) (k : Nat) : R (k + 1) 18 = body 2 4 (B_Book_wishes G (R k)) := h.step k 18 (by decide)
theorem eq_Book_leave {G : G} {R : Nat → Calls} (h : Run G R) (k : Nat) : R (k + 1) 19 = body 2 5 (B_Book_leave G (R k)) := h.step k 19 (by decide)
theorem eq_Book_size {G : G} {R : Nat → Calls} (h : Run G R) (k : Nat) : R (k + 1) 20 = body 1 1 (B_Book_size G (R k)) := h.step k 20 (by decide)
theorem eq_Book_collect {G : G} {R : Nat → Calls} (h : Run G R) (k : Nat) : R (k + 1) 21 = body 5 5 (B_Book_collect G (R k)) := h.step k 21 (by decide)
theorem eq_Book_take {G : G} {R : Nat → Calls} (h : Run G R) (k : Nat) : R (k + 1) 22 = body 3 4 (B_Book_take G (R k)) := h.step k 22 (by decide)
theorem eq_Book_hears {G : G} {R : Nat → Calls} (h : Run G R) (k : Nat) : R (k + 1) 23 = body 2 4 (B_Book_hears G (R k)) := h.step k 23 (by decide)
theorem eq_kind_number {G : G} {R : Nat → Calls} (h : Run G R) (k : Nat) : R (k + 1) 24 = body 1 2 (B_kind_number G (R k)) := h.step k 24 (by decide)
theorem eq_must {G : G} {R : Nat → Calls} (h : Run G R) (k : Nat) : R (k + 1) 25 = body 1 1 (B_must G (R k)) := h.step k 25 (by decide)
theorem eq_is_body {G : G} {R : Nat → Calls} (h : Run G R) (k : Nat) : R (k + 1) 26 = body 1 2 (B_is_body G (R k)) := h.step k 26 (by decide)
theorem eq_is_id {G : G} {R : Nat → Calls} (h : Run G R) (k : Nat) : R (k + 1) 27 = body 1 1 (B_is_id G (R k)) := h.step k 27 (by decide)
theorem eq_look_tiding {G : G} {R : Nat → Calls} (h : Run G R) (k : Nat) : R (k + 1) 28 = body 4 4 (B_look_tiding G (R k)) := h.step k 28 (by decide)
theorem eq_look_say {G : G} {R : Nat → Calls} (h : Run G R) (k : Nat) : R (k + 1) 29 = body 1 1 (B_look_say G (R k)) := h.step k 29 (by decide)
theorem eq_look_some {G : G} {R : Nat → Calls} (h : Run G R) (k : Nat) : R (k + 1) 30 = body 1 2 (B_look_some G (R k)) := h.step k 30 (by decide)
theorem eq_look_whole {G : G} {R : Nat → Calls} (h : Run G R) (k : Nat) : R (k + 1) 31 = body 1 2 (B_look_whole G (R k)) := h.step k 31 (by decide)
theorem eq_look_packet {G : G} {R : Nat → Calls} (h : Run G R) (k : Nat) : R (k + 1) 32 = body 1 1 (B_look_packet G (R k)) := h.step k 32 (by decide)
theorem eq_id_bytes {G : G} {R : Nat → Calls} (h : Run G R) (k : Nat) : R (k + 1) 33 = body 1 1 (B_id_bytes G (R k)) := h.step k 33 (by decide)
theorem eq_text_bytes {G : G} {R : Nat → Calls} (h : Run G R) (k : Nat) : R (k + 1) 34 = body 1 2 (B_text_bytes G (R k)) := h.step k 34 (by decide)
theorem eq_will_bytes {G : G} {R : Nat → Calls} (h : Run G R) (k : Nat) : R (k + 1) 35 = body 1 3 (B_will_bytes G (R k)) := h.step k 35 (by decide)
theorem eq_rest_bytes {G : G} {R : Nat → Calls} (h : Run G R) (k : Nat) : R (k + 1) 36 = body 1 6 (B_rest_bytes G (R k)) := h.step k 36 (by decide)
theorem eq_length_bytes {G : G} {R : Nat → Calls} (h : Run G R) (k : Nat) : R (k + 1) 37 = body 1 1 (B_length_bytes G (R k)) := h.step k 37 (by decide)
theorem eq_written_packet {G : G} {R : Nat → Calls} (h : Run G R) (k : Nat) : R (k + 1) 38 = body 1 3 (B_written_packet G (R k)) := h.step k 38 (by decide)
theorem eq_Bytes___init__ {G : G} {R : Nat → Calls} (h : Run G R) (k : Nat) : R (k + 1) 39 = body 2 2 (B_Bytes___init__ G (R k)) := h.step k 39 (by decide)
theorem eq_Bytes_is_end {G : G} {R : Nat → Calls} (h : Run G R) (k : Nat) : R (k + 1) 40 = body 1 1 (B_Bytes_is_end G (R k)) := h.step k 40 (by decide)
theorem eq_Bytes_byte {G : G} {R : Nat → Calls} (h : Run G R) (k : Nat) : R (k + 1) 41 = body 1 1 (B_Bytes_byte G (R k)) := h.step k 41 (by decide)
theorem eq_Bytes_number {G : G} {R : Nat → Calls} (h : Run G R) (k : Nat) : R (k + 1) 42 = body 1 2 (B_Bytes_number G (R k)) := h.step k 42 (by decide)
theorem eq_Bytes_text {G : G} {R : Nat → Calls} (h : Run G R) (k : Nat) : R (k + 1) 43 = body 2 5 (B_Bytes_text G (R k)) := h.step k 43 (by decide)
theorem eq_Bytes_counted {G : G} {R : Nat → Calls} (h : Run G R) (k : Nat) : R (k + 1) 44 = body 1 1 (B_Bytes_counted G (R k)) := h.step k 44 (by decide)
theorem eq_read_connect {G : G} {R : Nat → Calls} (h : Run G R) (k : Nat) : R (k + 1) 45 = body 1 5 (B_read_connect G (R k)) := h.step k 45 (by decide)
theorem eq_read_say {G : G} {R : Nat → Calls} (h : Run G R) (k : Nat) : R (k + 1) 46 = body 2 6 (B_read_say G (R k)) := h.step k 46 (by decide)
theorem eq_read_some {G : G} {R : Nat → Calls} (h : Run G R) (k : Nat) : R (k + 1) 47 = body 2 5 (B_read_some G (R k)) := h.step k 47 (by decide)
theorem eq_read_rest {G : G} {R : Nat → Calls} (h : Run G R) (k : Nat) : R (k + 1) 48 = body 3 3 (B_read_rest G (R k)) := h.step k 48 (by decide)
theorem eq_head_of {G : G} {R : Nat → Calls} (h : Run G R) (k : Nat) : R (k + 1) 49 = body 1 2 (B_head_of G (R k)) := h.step k 49 (by decide)
theorem eq_read_packet {G : G} {R : Nat → Calls} (h : Run G R) (k : Nat) : R (k + 1) 50 = body 1 5 (B_read_packet G (R k)) := h.step k 50 (by decide)
theorem eq_Pieces___init__ {G : G} {R : Nat → Calls} (h : Run G R) (k : Nat) : R (k + 1) 51 = body 1 1 (B_Pieces___init__ G (R k)) := h.step k 51 (by decide)
theorem eq_Pieces_feed {G : G} {R : Nat → Calls} (h : Run G R) (k : Nat) : R (k + 1) 52 = body 2 4 (B_Pieces_feed G (R k)) := h.step k 52 (by decide)
theorem eq_look_ends {G : G} {R : Nat → Calls} (h : Run G R) (k : Nat) : R (k + 1) 53 = body 2 2 (B_look_ends G (R k)) := h.step k 53 (by decide)
theorem eq_Giver___init__ {G : G} {R : Nat → Calls} (h : Run G R) (k : Nat) : R (k + 1) 54 = body 3 3 (B_Giver___init__ G (R k)) := h.step k 54 (by decide)
theorem eq_Giver_number {G : G} {R : Nat → Calls} (h : Run G R) (k : Nat) : R (k + 1) 55 = body 1 3 (B_Giver_number G (R k)) := h.step k 55 (by decide)
theorem eq_Giver_pump {G : G} {R : Nat → Calls} (h : Run G R) (k : Nat) : R (k + 1) 56 = body 1 7 (B_Giver_pump G (R k)) := h.step k 56 (by decide)
theorem eq_Giver_keep {G : G} {R : Nat → Calls} (h : Run G R) (k : Nat) : R (k + 1) 57 = body 5 5 (B_Giver_keep G (R k)) := h.step k 57 (by decide)
theorem eq_Giver_say {G : G} {R : Nat → Calls} (h : Run G R) (k : Nat) : R (k + 1) 58 = body 5 5 (B_Giver_say G (R k)) := h.step k 58 (by decide)
theorem eq_Giver_place_of {G : G} {R : Nat → Calls} (h : Run G R) (k : Nat) : R (k + 1) 59 = body 3 5 (B_Giver_place_of G (R k)) := h.step k 59 (by decide)
theorem eq_Giver_took {G : G} {R : Nat → Calls} (h : Run G R) (k : Nat) : R (k + 1) 60 = body 2 5 (B_Giver_took G (R k)) := h.step k 60 (by decide)
theorem eq_Giver_again {G : G} {R : Nat → Calls} (h : Run G R) (k : Nat) : R (k + 1) 61 = body 1 5 (B_Giver_again G (R k)) := h.step k 61 (by decide)
theorem eq_Giver_many {G : G} {R : Nat → Calls} (h : Run G R) (k : Nat) : R (k + 1) 62 = body 1 1 (B_Giver_many G (R k)) := h.step k 62 (by decide)
theorem eq_Taker___init__ {G : G} {R : Nat → Calls} (h : Run G R) (k : Nat) : R (k + 1) 63 = body 1 1 (B_Taker___init__ G (R k)) := h.step k 63 (by decide)
theorem eq_Taker_took {G : G} {R : Nat → Calls} (h : Run G R) (k : Nat) : R (k + 1) 64 = body 2 4 (B_Taker_took G (R k)) := h.step k 64 (by decide)
theorem eq_look_rules {G : G} {R : Nat → Calls} (h : Run G R) (k : Nat) : R (k + 1) 65 = body 1 2 (B_look_rules G (R k)) := h.step k 65 (by decide)
theorem eq_rules_of {G : G} {R : Nat → Calls} (h : Run G R) (k : Nat) : R (k + 1) 66 = body 3 4 (B_rules_of G (R k)) := h.step k 66 (by decide)
theorem eq_may_say {G : G} {R : Nat → Calls} (h : Run G R) (k : Nat) : R (k + 1) 67 = body 3 5 (B_may_say G (R k)) := h.step k 67 (by decide)
theorem eq_stepped {G : G} {R : Nat → Calls} (h : Run G R) (k : Nat) : R (k + 1) 68 = body 3 6 (B_stepped G (R k)) := h.step k 68 (by decide)
theorem eq_is_let_here {G : G} {R : Nat → Calls} (h : Run G R) (k : Nat) : R (k + 1) 69 = body 1 3 (B_is_let_here G (R k)) := h.step k 69 (by decide)
theorem eq_choices {G : G} {R : Nat → Calls} (h : Run G R) (k : Nat) : R (k + 1) 70 = body 3 8 (B_choices G (R k)) := h.step k 70 (by decide)
theorem eq_Search___init__ {G : G} {R : Nat → Calls} (h : Run G R) (k : Nat) : R (k + 1) 71 = body 1 1 (B_Search___init__ G (R k)) := h.step k 71 (by decide)
theorem eq_Search_go {G : G} {R : Nat → Calls} (h : Run G R) (k : Nat) : R (k + 1) 72 = body 4 5 (B_Search_go G (R k)) := h.step k 72 (by decide)
theorem eq_Search_found {G : G} {R : Nat → Calls} (h : Run G R) (k : Nat) : R (k + 1) 73 = body 4 8 (B_Search_found G (R k)) := h.step k 73 (by decide)
theorem eq_may_hear {G : G} {R : Nat → Calls} (h : Run G R) (k : Nat) : R (k + 1) 74 = body 3 7 (B_may_hear G (R k)) := h.step k 74 (by decide)
theorem eq_Session___init__ {G : G} {R : Nat → Calls} (h : Run G R) (k : Nat) : R (k + 1) 75 = body 3 3 (B_Session___init__ G (R k)) := h.step k 75 (by decide)
theorem eq_group_of {G : G} {R : Nat → Calls} (h : Run G R) (k : Nat) : R (k + 1) 76 = body 1 2 (B_group_of G (R k)) := h.step k 76 (by decide)
theorem eq_is_share {G : G} {R : Nat → Calls} (h : Run G R) (k : Nat) : R (k + 1) 77 = body 1 1 (B_is_share G (R k)) := h.step k 77 (by decide)
theorem eq_House___init__ {G : G} {R : Nat → Calls} (h : Run G R) (k : Nat) : R (k + 1) 78 = body 4 4 (B_House___init__ G (R k)) := h.step k 78 (by decide)
theorem eq_House_here {G : G} {R : Nat → Calls} (h : Run G R) (k : Nat) : R (k + 1) 79 = body 1 2 (B_House_here G (R k)) := h.step k 79 (by decide)
theorem eq_House_kept {G : G} {R : Nat → Calls} (h : Run G R) (k : Nat) : R (k + 1) 80 = body 1 2 (B_House_kept G (R k)) := h.step k 80 (by decide)
theorem eq_House_waits {G : G} {R : Nat → Calls} (h : Run G R) (k : Nat) : R (k + 1) 81 = body 2 2 (B_House_waits G (R k)) := h.step k 81 (by decide)
theorem eq_House_took {G : G} {R : Nat → Calls} (h : Run G R) (k : Nat) : R (k + 1) 82 = body 3 7 (B_House_took G (R k)) := h.step k 82 (by decide)
theorem eq_House_connect {G : G} {R : Nat → Calls} (h : Run G R) (k : Nat) : R (k + 1) 83 = body 3 11 (B_House_connect G (R k)) := h.step k 83 (by decide)
theorem eq_House_close {G : G} {R : Nat → Calls} (h : Run G R) (k : Nat) : R (k + 1) 84 = body 2 2 (B_House_close G (R k)) := h.step k 84 (by decide)
theorem eq_House_lost {G : G} {R : Nat → Calls} (h : Run G R) (k : Nat) : R (k + 1) 85 = body 2 5 (B_House_lost G (R k)) := h.step k 85 (by decide)
theorem eq_House_forget {G : G} {R : Nat → Calls} (h : Run G R) (k : Nat) : R (k + 1) 86 = body 2 3 (B_House_forget G (R k)) := h.step k 86 (by decide)
theorem eq_House_taken {G : G} {R : Nat → Calls} (h : Run G R) (k : Nat) : R (k + 1) 87 = body 3 9 (B_House_taken G (R k)) := h.step k 87 (by decide)
theorem eq_House_publish {G : G} {R : Nat → Calls} (h : Run G R) (k : Nat) : R (k + 1) 88 = body 3 11 (B_House_publish G (R k)) := h.step k 88 (by decide)
theorem eq_House_hand {G : G} {R : Nat → Calls} (h : Run G R) (k : Nat) : R (k + 1) 89 = body 5 7 (B_House_hand G (R k)) := h.step k 89 (by decide)
theorem eq_House_next_of {G : G} {R : Nat → Calls} (h : Run G R) (k : Nat) : R (k + 1) 90 = body 2 6 (B_House_next_of G (R k)) := h.step k 90 (by decide)
theorem eq_House_is_granted {G : G} {R : Nat → Calls} (h : Run G R) (k : Nat) : R (k + 1) 91 = body 3 4 (B_House_is_granted G (R k)) := h.step k 91 (by decide)
theorem eq_House_wished {G : G} {R : Nat → Calls} (h : Run G R) (k : Nat) : R (k + 1) 92 = body 3 9 (B_House_wished G (R k)) := h.step k 92 (by decide)
theorem eq_House_shelf_for {G : G} {R : Nat → Calls} (h : Run G R) (k : Nat) : R (k + 1) 93 = body 4 8 (B_House_shelf_for G (R k)) := h.step k 93 (by decide)
theorem eq_House_unwish {G : G} {R : Nat → Calls} (h : Run G R) (k : Nat) : R (k + 1) 94 = body 3 3 (B_House_unwish G (R k)) := h.step k 94 (by decide)
theorem eq_House_wishes {G : G} {R : Nat → Calls} (h : Run G R) (k : Nat) : R (k + 1) 95 = body 2 4 (B_House_wishes G (R k)) := h.step k 95 (by decide)
theorem eq_Hearer___init__ {G : G} {R : Nat → Calls} (h : Run G R) (k : Nat) : R (k + 1) 96 = body 4 4 (B_Hearer___init__ G (R k)) := h.step k 96 (by decide)
theorem eq_Hearer_connect {G : G} {R : Nat → Calls} (h : Run G R) (k : Nat) : R (k + 1) 97 = body 3 4 (B_Hearer_connect G (R k)) := h.step k 97 (by decide)
theorem eq_Hearer_lost {G : G} {R : Nat → Calls} (h : Run G R) (k : Nat) : R (k + 1) 98 = body 1 1 (B_Hearer_lost G (R k)) := h.step k 98 (by decide)
theorem eq_Hearer_leave {G : G} {R : Nat → Calls} (h : Run G R) (k : Nat) : R (k + 1) 99 = body 1 2 (B_Hearer_leave G (R k)) := h.step k 99 (by decide)
theorem eq_Hearer_say {G : G} {R : Nat → Calls} (h : Run G R) (k : Nat) : R (k + 1) 100 = body 5 5 (B_Hearer_say G (R k)) := h.step k 100 (by decide)
theorem eq_Hearer_ask {G : G} {R : Nat → Calls} (h : Run G R) (k : Nat) : R (k + 1) 101 = body 3 4 (B_Hearer_ask G (R k)) := h.step k 101 (by decide)
theorem eq_Hearer_hear {G : G} {R : Nat → Calls} (h : Run G R) (k : Nat) : R (k + 1) 102 = body 2 2 (B_Hearer_hear G (R k)) := h.step k 102 (by decide)
theorem eq_Hearer_drop {G : G} {R : Nat → Calls} (h : Run G R) (k : Nat) : R (k + 1) 103 = body 2 2 (B_Hearer_drop G (R k)) := h.step k 103 (by decide)
theorem eq_Hearer_took {G : G} {R : Nat → Calls} (h : Run G R) (k : Nat) : R (k + 1) 104 = body 2 5 (B_Hearer_took G (R k)) := h.step k 104 (by decide)
theorem eq_Hearer_heard {G : G} {R : Nat → Calls} (h : Run G R) (k : Nat) : R (k + 1) 105 = body 1 1 (B_Hearer_heard G (R k)) := h.step k 105 (by decide)
theorem eq_Hearer_granted {G : G} {R : Nat → Calls} (h : Run G R) (k : Nat) : R (k + 1) 106 = body 1 1 (B_Hearer_granted G (R k)) := h.step k 106 (by decide)
theorem eq_Hearer_many {G : G} {R : Nat → Calls} (h : Run G R) (k : Nat) : R (k + 1) 107 = body 1 1 (B_Hearer_many G (R k)) := h.step k 107 (by decide)
theorem eq_packed {G : G} {R : Nat → Calls} (h : Run G R) (k : Nat) : R (k + 1) 108 = body 1 2 (B_packed G (R k)) := h.step k 108 (by decide)
theorem eq_Signs___init__ {G : G} {R : Nat → Calls} (h : Run G R) (k : Nat) : R (k + 1) 109 = body 2 2 (B_Signs___init__ G (R k)) := h.step k 109 (by decide)
theorem eq_Signs_take {G : G} {R : Nat → Calls} (h : Run G R) (k : Nat) : R (k + 1) 110 = body 2 2 (B_Signs_take G (R k)) := h.step k 110 (by decide)
theorem eq_Signs_number {G : G} {R : Nat → Calls} (h : Run G R) (k : Nat) : R (k + 1) 111 = body 1 4 (B_Signs_number G (R k)) := h.step k 111 (by decide)
theorem eq_Signs_unpacked {G : G} {R : Nat → Calls} (h : Run G R) (k : Nat) : R (k + 1) 112 = body 1 3 (B_Signs_unpacked G (R k)) := h.step k 112 (by decide)
theorem eq_session_row {G : G} {R : Nat → Calls} (h : Run G R) (k : Nat) : R (k + 1) 113 = body 2 4 (B_session_row G (R k)) := h.step k 113 (by decide)
theorem eq_written_house {G : G} {R : Nat → Calls} (h : Run G R) (k : Nat) : R (k + 1) 114 = body 1 8 (B_written_house G (R k)) := h.step k 114 (by decide)
theorem eq_woken_session {G : G} {R : Nat → Calls} (h : Run G R) (k : Nat) : R (k + 1) 115 = body 2 11 (B_woken_session G (R k)) := h.step k 115 (by decide)
theorem eq_woken_house {G : G} {R : Nat → Calls} (h : Run G R) (k : Nat) : R (k + 1) 116 = body 1 18 (B_woken_house G (R k)) := h.step k 116 (by decide)
end TH.PG
end
section
set_option linter.all false
/-! P_k32: the law as combinators (printed by gen2.py). -/
namespace TH.k32
open TH
def ok_window : Nat → Bool
  | 14 => true
  | _ => false
def ok_most : Nat → Bool
  | 14 => true
  | _ => false
def ok_last : Nat → Bool
  | 14 => true
  | _ => false
def ok_waiting : Nat → Bool
  | 14 => true
  | _ => false
def ok_flying : Nat → Bool
  | 14 => true
  | _ => false
def ok_numbers : Nat → Bool
  | 15 => true
  | _ => false
def mt_again : Nat → Option Nat
  | 14 => some 61
  | _ => none
def mt_keep : Nat → Option Nat
  | 14 => some 57
  | _ => none
def mt_many : Nat → Option Nat
  | 14 => some 62
  | _ => none
def mt_number : Nat → Option Nat
  | 14 => some 55
  | _ => none
def mt_place_of : Nat → Option Nat
  | 14 => some 59
  | _ => none
def mt_pump : Nat → Option Nat
  | 14 => some 56
  | _ => none
def mt_say : Nat → Option Nat
  | 14 => some 58
  | _ => none
def mt_took : Nat → Option Nat
  | 14 => some 60
  | 15 => some 64
  | _ => none
def G0 : PG.G := ⟨(fun | 7 => ok_window | 8 => ok_most | 9 => ok_last | 10 => ok_waiting | 11 => ok_flying | 12 => ok_numbers | _ => fun _ => false), (fun | 0 => mt_again | 20 => mt_keep | 24 => mt_many | 27 => mt_number | 28 => mt_place_of | 30 => mt_pump | 32 => mt_say | 38 => mt_took | _ => fun _ => none), (fun _ => fun _ => none), (fun _ => fun _ => none)⟩
abbrev G : PG.G := G0
def B__law_cell (c : Calls) : SM := sSeq (sIf (xVar 0) (sRet (xBin oIx (xVar 0) (xBin oMod (xVar 1) (xB bLen (aCons (xVar 0) (aNil)))))) (sSkip))
    (sRet (xC (.int 0)))
def B__law_mix (c : Calls) : SM := sSeq (sSet 2 (xBin oMod (xBin oAdd (xCall c 200 (aCons (xVar 0) (aCons (xVar 1) (aNil)))) (xBin oMul (xC (.int 104729)) (xBin oAdd (xVar 1) (xC (.int 1))))) (xC (.int 4294967291))))
    (sSeq (sSet 2 (xBin oMod (xBin oPow (xVar 2) (xC (.int 5))) (xC (.int 4294967279))))
    (sRet (xBin oMod (xBin oAdd (xBin oMul (xBin oDiv (xVar 2) (xC (.int 64))) (xC (.int 69621))) (xVar 2)) (xC (.int 4294967231)))))
def B__law_draw (c : Calls) : SM := sSeq (sExpr (xApp (xVar 1) (xC (.int 0))))
    (sRet (xBin oMod (xBin oDiv (xCall c 201 (aCons (xVar 0) (aCons (xB bLen (aCons (xVar 1) (aNil))) (aNil)))) (xC (.int 8))) (xVar 2)))
def B__law_carried (c : Calls) : SM := sIf (xVar 2) (sSeq (sTgt (.tup [5, 6]) (xMeth c (G.mt 38) 32 (xVar 1) (aCons (xPopI (xVar 2) (xC (.int 0))) (aNil))))
    (sSeq (sExpr (xExt (xVar 3) (xVar 5)))
    (sExpr (xExt (xVar 4) (xVar 6))))) (sIf (xVar 3) (sExpr (xExt (xVar 2) (xMeth c (G.mt 38) 32 (xVar 0) (aCons (xPopI (xVar 3) (xC (.int 0))) (aNil))))) (sSkip))
def B__law_good (c : Calls) : SM := sSeq (sFor (iRng1 (xC (.int 3))) (.name 2) (sSeq (sSet 3 (xLst (lComp (iVal (xVar 0)) (.name 7) (some (xBin oEq (xBin oIx (xVar 7) (xC (.int 2))) (xVar 2))) (xVar 7) [7])))
    (sSeq (sSet 4 (xLst (lComp (iVal (xVar 1)) (.name 7) (some (xBin oEq (xBin oIx (xVar 7) (xC (.int 2))) (xVar 2))) (xVar 7) [7])))
    (sSeq (sSet 5 (xLst (lComp (iRng1 (xB bLen (aCons (xVar 4) (aNil)))) (.name 8) (some (xBin oNotIn (xBin oIx (xVar 4) (xVar 8)) (xLst (lSl (xVar 4) none (some (xVar 8)))))) (xBin oIx (xVar 4) (xVar 8)) [8])))
    (sSeq (sIf (xOr (xAnd (xBin oEq (xVar 2) (xC (.int 2))) (xBin oNe (xVar 4) (xVar 3))) (xAnd (xBin oEq (xVar 2) (xC (.int 1))) (xBin oNe (xVar 5) (xVar 3)))) (sRet (xC (.bl false))) (sSkip))
    (sSeq (sSet 6 (xLst (lComp (iVal (xVar 3)) (.name 7) (some (xBin oIn (xVar 7) (xVar 4))) (xVar 7) [7])))
    (sIf (xAnd (xBin oEq (xVar 2) (xC (.int 0))) (xOr (xBin oNe (xVar 4) (xVar 5)) (xBin oNe (xVar 4) (xVar 6)))) (sRet (xC (.bl false))) (sSkip))))))))
    (sRet (xBin oEq (xB bLen (aCons (xVar 1) (aNil))) (xB bLen (aCons (xLst (lComp (iVal (xVar 1)) (.name 7) (some (xBin oIn (xVar 7) (xVar 0))) (xVar 7) [7])) (aNil)))))
def B_law (c : Calls) : SM := sSeq (sSet 1 (xMut (lLst (aNil))))
    (sSeq (sSet 2 (xBin oAdd (xC (.int 1)) (xCall c 202 (aCons (xVar 0) (aCons (xVar 1) (aCons (xC (.int 4)) (aNil)))))))
    (sSeq (sSet 3 (xMake c 14 54 (aCons (xVar 2) (aCons (xBin oAdd (xVar 2) (xCall c 202 (aCons (xVar 0) (aCons (xVar 1) (aCons (xC (.int 3)) (aNil)))))) (aNil)))))
    (sSeq (sSet 4 (xMake c 15 63 aNil))
    (sSeq (sSet 5 (xMut (lLst (aNil))))
    (sSeq (sSet 6 (xMut (lLst (aNil))))
    (sSeq (sSet 7 (xMut (lLst (aNil))))
    (sSeq (sSet 8 (xMut (lLst (aNil))))
    (sSeq (sFor (iRng1 (xCall c 202 (aCons (xVar 0) (aCons (xVar 1) (aCons (xC (.int 61)) (aNil)))))) (.name 9) (sSeq (sSet 10 (xCall c 202 (aCons (xVar 0) (aCons (xVar 1) (aCons (xC (.int 12)) (aNil))))))
    (sSeq (sIf (xAnd (xBin oLt (xVar 10) (xC (.int 3))) (xBin oLt (xB bLen (aCons (xVar 7) (aNil))) (xC (.int 16)))) (sSeq (sExpr (xApp (xVar 7) (xTup (aCons (xC (.str [97])) (aCons (xBin oAdd (xC (.str [110])) (xB bStr (aCons (xB bLen (aCons (xVar 7) (aNil))) (aNil)))) (aCons (xCall c 202 (aCons (xVar 0) (aCons (xVar 1) (aCons (xC (.int 3)) (aNil))))) (aCons (xBin oEq (xVar 10) (xC (.int 0))) (aNil))))))))
    (sExpr (xExt (xVar 5) (xMeth c (G.mt 32) 32 (xVar 3) (aCons (xBin oIx (xBin oIx (xVar 7) (xNeg (xC (.int 1)))) (xC (.int 0))) (aCons (xBin oIx (xBin oIx (xVar 7) (xNeg (xC (.int 1)))) (xC (.int 1))) (aCons (xBin oIx (xBin oIx (xVar 7) (xNeg (xC (.int 1)))) (xC (.int 2))) (aCons (xBin oIx (xBin oIx (xVar 7) (xNeg (xC (.int 1)))) (xC (.int 3))) (aNil))))))))) (sIf (xBin oLt (xVar 10) (xC (.int 6))) (sExpr (xCall c 203 (aCons (xVar 3) (aCons (xVar 4) (aCons (xVar 5) (aCons (xVar 6) (aCons (xVar 8) (aNil)))))))) (sIf (xAnd (xBin oLt (xVar 10) (xC (.int 10))) (xVar 6)) (sExpr (xExt (xVar 5) (xMeth c (G.mt 38) 32 (xVar 3) (aCons (xPopI (xVar 6) (xC (.int 0))) (aNil))))) (sIf (xBin oEq (xVar 10) (xC (.int 11))) (sSeq (sSet 5 (xMut (lLst (aNil))))
    (sSeq (sSet 6 (xMut (lLst (aNil))))
    (sExpr (xExt (xVar 5) (xMeth c (G.mt 0) 32 (xVar 3) aNil))))) (sSkip)))))
    (sIf (xBin oGt (xBin oIx (xMeth c (G.mt 24) 32 (xVar 3) aNil) (xC (.int 0))) (xVar 2)) (sRet (xC (.bl false))) (sSkip)))))
    (sSeq (sSet 5 (xMeth c (G.mt 0) 32 (xVar 3) aNil))
    (sSeq (sSet 6 (xMut (lLst (aNil))))
    (sSeq (sFor (iRng1 (xC (.int 400))) (.name 9) (sExpr (xCall c 203 (aCons (xVar 3) (aCons (xVar 4) (aCons (xVar 5) (aCons (xVar 6) (aCons (xVar 8) (aNil)))))))))
    (sRet (xAnd (xBin oEq (xLst (lCat (xVar 5) (xVar 6))) (xLst (lLst (aNil)))) (xAnd (xBin oEq (xMeth c (G.mt 24) 32 (xVar 3) aNil) (xTup (aCons (xC (.int 0)) (aCons (xC (.int 0)) (aNil))))) (xCall c 204 (aCons (xVar 7) (aCons (xVar 8) (aNil))))))))))))))))))
def bodies (c : Calls) : Nat → List D → St → RE
  | 200 => body 2 2 (B__law_cell c)
  | 201 => body 2 3 (B__law_mix c)
  | 202 => body 3 3 (B__law_draw c)
  | 203 => body 5 7 (B__law_carried c)
  | 204 => body 2 9 (B__law_good c)
  | 205 => body 1 11 (B_law c)
  | n => PG.bodies G0 c n
def run : Nat → Calls
  | 0 => fun _ _ _ => .stuck
  | k + 1 => bodies (run k)
theorem isRun : PG.Run G0 run := ⟨fun k n h => by
  show bodies (run k) n = _
  unfold bodies
  split <;> first | omega | rfl⟩
end TH.k32
end
section
set_option Elab.async false
set_option linter.all false
set_option autoImplicit false
set_option maxRecDepth 100000
set_option maxHeartbeats 4000000
/-! W_k32: each def keeps what its combinators say (printed by gen.py). -/
namespace TH.k32
open PySem L2 TL PyProof.Rows TH
def top (i : Nat) : Stmt := PySem.Challenge.pw_tidinghall_k32_whole_line.main.body.getD i (.Pass ⟨0, 0, 0, 0⟩)
def fldT : Nat → Str
  | 0 => "below"
  | 1 => "hearers"
  | 2 => "top"
  | 3 => "rows"
  | 4 => "row"
  | 5 => "spot"
  | 6 => "is_bad"
  | 7 => "window"
  | 8 => "most"
  | 9 => "last"
  | 10 => "waiting"
  | 11 => "flying"
  | 12 => "numbers"
  | 13 => "known"
  | 14 => "giver"
  | 15 => "taker"
  | 16 => "line"
  | 17 => "is_clean"
  | 18 => "will"
  | 19 => "rules"
  | 20 => "sessions"
  | 21 => "lines"
  | 22 => "book"
  | 23 => "groups"
  | 24 => "turns"
  | 25 => "shelf"
  | 26 => "name"
  | 27 => "is_on"
  | 28 => "asked"
  | 29 => "grants"
  | 30 => "whole"
  | 31 => "at"
  | _ => ""
abbrev L0 (K : PySem.W.Frag) (cA : Nat → Addr) : Lk := ⟨K, cA, fldT⟩
theorem fj_0 : ∀ g, g < 32 → fldT g = fldT 0 → g = 0 := by decide +kernel
theorem fj_1 : ∀ g, g < 32 → fldT g = fldT 1 → g = 1 := by decide +kernel
theorem fj_2 : ∀ g, g < 32 → fldT g = fldT 2 → g = 2 := by decide +kernel
theorem fj_3 : ∀ g, g < 32 → fldT g = fldT 3 → g = 3 := by decide +kernel
theorem fj_4 : ∀ g, g < 32 → fldT g = fldT 4 → g = 4 := by decide +kernel
theorem fj_5 : ∀ g, g < 32 → fldT g = fldT 5 → g = 5 := by decide +kernel
theorem fj_6 : ∀ g, g < 32 → fldT g = fldT 6 → g = 6 := by decide +kernel
theorem fj_7 : ∀ g, g < 32 → fldT g = fldT 7 → g = 7 := by decide +kernel
theorem fj_8 : ∀ g, g < 32 → fldT g = fldT 8 → g = 8 := by decide +kernel
theorem fj_9 : ∀ g, g < 32 → fldT g = fldT 9 → g = 9 := by decide +kernel
theorem fj_10 : ∀ g, g < 32 → fldT g = fldT 10 → g = 10 := by decide +kernel
theorem fj_11 : ∀ g, g < 32 → fldT g = fldT 11 → g = 11 := by decide +kernel
theorem fj_12 : ∀ g, g < 32 → fldT g = fldT 12 → g = 12 := by decide +kernel
theorem fj_13 : ∀ g, g < 32 → fldT g = fldT 13 → g = 13 := by decide +kernel
theorem fj_14 : ∀ g, g < 32 → fldT g = fldT 14 → g = 14 := by decide +kernel
theorem fj_15 : ∀ g, g < 32 → fldT g = fldT 15 → g = 15 := by decide +kernel
theorem fj_16 : ∀ g, g < 32 → fldT g = fldT 16 → g = 16 := by decide +kernel
theorem fj_17 : ∀ g, g < 32 → fldT g = fldT 17 → g = 17 := by decide +kernel
theorem fj_18 : ∀ g, g < 32 → fldT g = fldT 18 → g = 18 := by decide +kernel
theorem fj_19 : ∀ g, g < 32 → fldT g = fldT 19 → g = 19 := by decide +kernel
theorem fj_20 : ∀ g, g < 32 → fldT g = fldT 20 → g = 20 := by decide +kernel
theorem fj_21 : ∀ g, g < 32 → fldT g = fldT 21 → g = 21 := by decide +kernel
theorem fj_22 : ∀ g, g < 32 → fldT g = fldT 22 → g = 22 := by decide +kernel
theorem fj_23 : ∀ g, g < 32 → fldT g = fldT 23 → g = 23 := by decide +kernel
theorem fj_24 : ∀ g, g < 32 → fldT g = fldT 24 → g = 24 := by decide +kernel
theorem fj_25 : ∀ g, g < 32 → fldT g = fldT 25 → g = 25 := by decide +kernel
theorem fj_26 : ∀ g, g < 32 → fldT g = fldT 26 → g = 26 := by decide +kernel
theorem fj_27 : ∀ g, g < 32 → fldT g = fldT 27 → g = 27 := by decide +kernel
theorem fj_28 : ∀ g, g < 32 → fldT g = fldT 28 → g = 28 := by decide +kernel
theorem fj_29 : ∀ g, g < 32 → fldT g = fldT 29 → g = 29 := by decide +kernel
theorem fj_30 : ∀ g, g < 32 → fldT g = fldT 30 → g = 30 := by decide +kernel
theorem fj_31 : ∀ g, g < 32 → fldT g = fldT 31 → g = 31 := by decide +kernel
theorem nm_again : ∀ g, g < 32 → fldT g ≠ "again" := by decide +kernel
theorem nm_keep : ∀ g, g < 32 → fldT g ≠ "keep" := by decide +kernel
theorem nm_many : ∀ g, g < 32 → fldT g ≠ "many" := by decide +kernel
theorem nm_number : ∀ g, g < 32 → fldT g ≠ "number" := by decide +kernel
theorem nm_place_of : ∀ g, g < 32 → fldT g ≠ "place_of" := by decide +kernel
theorem nm_pump : ∀ g, g < 32 → fldT g ≠ "pump" := by decide +kernel
theorem nm_say : ∀ g, g < 32 → fldT g ≠ "say" := by decide +kernel
theorem nm_took : ∀ g, g < 32 → fldT g ≠ "took" := by decide +kernel
abbrev s_is_level : Stmt := top 8
abbrev N_is_level : List Str := ["level", "sign"]
abbrev ps_is_level : List Str := ["level"]
abbrev s_look_name : Stmt := top 9
abbrev N_look_name : List Str := ["name", "levels", "level"]
abbrev ps_look_name : List Str := ["name"]
abbrev s_look_grade : Stmt := top 10
abbrev N_look_grade : List Str := ["grade"]
abbrev ps_look_grade : List Str := ["grade"]
abbrev s_must : Stmt := top 14
abbrev N_must : List Str := ["right"]
abbrev ps_must : List Str := ["right"]
abbrev s_is_body : Stmt := top 15
abbrev N_is_body : List Str := ["body", "sign"]
abbrev ps_is_body : List Str := ["body"]
abbrev s_look_tiding : Stmt := top 16
abbrev N_look_tiding : List Str := ["name", "body", "grade", "kept"]
abbrev ps_look_tiding : List Str := ["name", "body", "grade", "kept"]
abbrev s_look_ends : Stmt := top 19
abbrev N_look_ends : List Str := ["window", "most"]
abbrev ps_look_ends : List Str := ["window", "most"]
abbrev s_Giver___init__ : Stmt := inCls (top 20) 0
abbrev N_Giver___init__ : List Str := ["self", "window", "most"]
abbrev ps_Giver___init__ : List Str := ["self", "window", "most"]
abbrev s_Giver_number : Stmt := inCls (top 20) 1
abbrev N_Giver_number : List Str := ["self", "used", "entry"]
abbrev ps_Giver_number : List Str := ["self"]
abbrev s_Giver_pump : Stmt := inCls (top 20) 2
abbrev N_Giver_pump : List Str := ["self", "found", "number", "name", "body", "grade", "kept"]
abbrev ps_Giver_pump : List Str := ["self"]
abbrev s_Giver_keep : Stmt := inCls (top 20) 3
abbrev N_Giver_keep : List Str := ["self", "name", "body", "grade", "kept"]
abbrev ps_Giver_keep : List Str := ["self", "name", "body", "grade", "kept"]
abbrev s_Giver_say : Stmt := inCls (top 20) 4
abbrev N_Giver_say : List Str := ["self", "name", "body", "grade", "kept"]
abbrev ps_Giver_say : List Str := ["self", "name", "body", "grade", "kept"]
abbrev s_Giver_place_of : Stmt := inCls (top 20) 5
abbrev N_Giver_place_of : List Str := ["self", "number", "grade", "found", "k"]
abbrev ps_Giver_place_of : List Str := ["self", "number", "grade"]
abbrev s_Giver_took : Stmt := inCls (top 20) 6
abbrev N_Giver_took : List Str := ["self", "packet", "at", "word", "number"]
abbrev ps_Giver_took : List Str := ["self", "packet"]
abbrev s_Giver_again : Stmt := inCls (top 20) 7
abbrev N_Giver_again : List Str := ["self", "found", "number", "grade", "tiding"]
abbrev ps_Giver_again : List Str := ["self"]
abbrev s_Giver_many : Stmt := inCls (top 20) 8
abbrev N_Giver_many : List Str := ["self"]
abbrev ps_Giver_many : List Str := ["self"]
abbrev s_Taker___init__ : Stmt := inCls (top 21) 0
abbrev N_Taker___init__ : List Str := ["self"]
abbrev ps_Taker___init__ : List Str := ["self"]
abbrev s_Taker_took : Stmt := inCls (top 21) 1
abbrev N_Taker_took : List Str := ["self", "packet", "tiding", "number"]
abbrev ps_Taker_took : List Str := ["self", "packet"]
abbrev s__law_cell : Stmt := top 23
abbrev N__law_cell : List Str := ["_law_script", "_law_k"]
abbrev ps__law_cell : List Str := ["_law_script", "_law_k"]
abbrev s__law_mix : Stmt := top 24
abbrev N__law_mix : List Str := ["_law_script", "_law_k", "_law_number"]
abbrev ps__law_mix : List Str := ["_law_script", "_law_k"]
abbrev s__law_draw : Stmt := top 25
abbrev N__law_draw : List Str := ["_law_script", "_law_town", "_law_many"]
abbrev ps__law_draw : List Str := ["_law_script", "_law_town", "_law_many"]
abbrev s__law_carried : Stmt := top 26
abbrev N__law_carried : List Str := ["_law_giver", "_law_taker", "_law_there", "_law_back", "_law_came", "_law_answers", "_law_tidings"]
abbrev ps__law_carried : List Str := ["_law_giver", "_law_taker", "_law_there", "_law_back", "_law_came"]
abbrev s__law_good : Stmt := top 27
abbrev N__law_good : List Str := ["_law_said", "_law_came", "_law_grade", "_law_mine", "_law_its", "_law_first", "_law_turned", "_law_one", "_law_k"]
abbrev ps__law_good : List Str := ["_law_said", "_law_came"]
abbrev s_law : Stmt := top 28
abbrev N_law : List Str := ["_law_script", "_law_town", "_law_window", "_law_giver", "_law_taker", "_law_there", "_law_back", "_law_said", "_law_came", "_law_k", "_law_way"]
abbrev ps_law : List Str := ["_law_script"]
structure Txt (K : PySem.W.Frag) (mg : Str → Option Value) (fA : Nat → Addr) (fD : Nat → FuncData) (cA : Nat → Addr) : Prop where
  F_is_level : Fun K "is_level" "is_level" s_is_level (fA 0) (fD 0)
  b_is_level : Binds K (fD 0) ps_is_level []
  m_is_level : mg "is_level" = some (.ref (fA 0))
  k_is_level : PySem.W.keepIn K (.ref (fA 0)) = true
  F_look_name : Fun K "look_name" "look_name" s_look_name (fA 1) (fD 1)
  b_look_name : Binds K (fD 1) ps_look_name []
  m_look_name : mg "look_name" = some (.ref (fA 1))
  k_look_name : PySem.W.keepIn K (.ref (fA 1)) = true
  F_look_grade : Fun K "look_grade" "look_grade" s_look_grade (fA 4) (fD 4)
  b_look_grade : Binds K (fD 4) ps_look_grade []
  m_look_grade : mg "look_grade" = some (.ref (fA 4))
  k_look_grade : PySem.W.keepIn K (.ref (fA 4)) = true
  F_must : Fun K "must" "must" s_must (fA 25) (fD 25)
  b_must : Binds K (fD 25) ps_must []
  m_must : mg "must" = some (.ref (fA 25))
  k_must : PySem.W.keepIn K (.ref (fA 25)) = true
  F_is_body : Fun K "is_body" "is_body" s_is_body (fA 26) (fD 26)
  b_is_body : Binds K (fD 26) ps_is_body []
  m_is_body : mg "is_body" = some (.ref (fA 26))
  k_is_body : PySem.W.keepIn K (.ref (fA 26)) = true
  F_look_tiding : Fun K "look_tiding" "look_tiding" s_look_tiding (fA 28) (fD 28)
  b_look_tiding : Binds K (fD 28) ps_look_tiding []
  m_look_tiding : mg "look_tiding" = some (.ref (fA 28))
  k_look_tiding : PySem.W.keepIn K (.ref (fA 28)) = true
  F_look_ends : Fun K "look_ends" "look_ends" s_look_ends (fA 53) (fD 53)
  b_look_ends : Binds K (fD 53) ps_look_ends []
  m_look_ends : mg "look_ends" = some (.ref (fA 53))
  k_look_ends : PySem.W.keepIn K (.ref (fA 53)) = true
  F_Giver___init__ : Fun K "__init__" "Giver.__init__" s_Giver___init__ (fA 54) (fD 54)
  b_Giver___init__ : Binds K (fD 54) ps_Giver___init__ []
  I_Giver : Mk K (cA 14) (fA 54)
  F_Giver_number : Fun K "number" "Giver.number" s_Giver_number (fA 55) (fD 55)
  b_Giver_number : Binds K (fD 55) ps_Giver_number []
  M_Giver_number : Meth K (cA 14) "number" (fA 55)
  F_Giver_pump : Fun K "pump" "Giver.pump" s_Giver_pump (fA 56) (fD 56)
  b_Giver_pump : Binds K (fD 56) ps_Giver_pump []
  M_Giver_pump : Meth K (cA 14) "pump" (fA 56)
  F_Giver_keep : Fun K "keep" "Giver.keep" s_Giver_keep (fA 57) (fD 57)
  b_Giver_keep : Binds K (fD 57) ps_Giver_keep []
  M_Giver_keep : Meth K (cA 14) "keep" (fA 57)
  F_Giver_say : Fun K "say" "Giver.say" s_Giver_say (fA 58) (fD 58)
  b_Giver_say : Binds K (fD 58) ps_Giver_say []
  M_Giver_say : Meth K (cA 14) "say" (fA 58)
  F_Giver_place_of : Fun K "place_of" "Giver.place_of" s_Giver_place_of (fA 59) (fD 59)
  b_Giver_place_of : Binds K (fD 59) ps_Giver_place_of []
  M_Giver_place_of : Meth K (cA 14) "place_of" (fA 59)
  F_Giver_took : Fun K "took" "Giver.took" s_Giver_took (fA 60) (fD 60)
  b_Giver_took : Binds K (fD 60) ps_Giver_took []
  M_Giver_took : Meth K (cA 14) "took" (fA 60)
  F_Giver_again : Fun K "again" "Giver.again" s_Giver_again (fA 61) (fD 61)
  b_Giver_again : Binds K (fD 61) ps_Giver_again []
  M_Giver_again : Meth K (cA 14) "again" (fA 61)
  F_Giver_many : Fun K "many" "Giver.many" s_Giver_many (fA 62) (fD 62)
  b_Giver_many : Binds K (fD 62) ps_Giver_many []
  M_Giver_many : Meth K (cA 14) "many" (fA 62)
  F_Taker___init__ : Fun K "__init__" "Taker.__init__" s_Taker___init__ (fA 63) (fD 63)
  b_Taker___init__ : Binds K (fD 63) ps_Taker___init__ []
  I_Taker : Mk K (cA 15) (fA 63)
  F_Taker_took : Fun K "took" "Taker.took" s_Taker_took (fA 64) (fD 64)
  b_Taker_took : Binds K (fD 64) ps_Taker_took []
  M_Taker_took : Meth K (cA 15) "took" (fA 64)
  F__law_cell : Fun K "_law_cell" "_law_cell" s__law_cell (fA 200) (fD 200)
  b__law_cell : Binds K (fD 200) ps__law_cell []
  m__law_cell : mg "_law_cell" = some (.ref (fA 200))
  k__law_cell : PySem.W.keepIn K (.ref (fA 200)) = true
  F__law_mix : Fun K "_law_mix" "_law_mix" s__law_mix (fA 201) (fD 201)
  b__law_mix : Binds K (fD 201) ps__law_mix []
  m__law_mix : mg "_law_mix" = some (.ref (fA 201))
  k__law_mix : PySem.W.keepIn K (.ref (fA 201)) = true
  F__law_draw : Fun K "_law_draw" "_law_draw" s__law_draw (fA 202) (fD 202)
  b__law_draw : Binds K (fD 202) ps__law_draw []
  m__law_draw : mg "_law_draw" = some (.ref (fA 202))
  k__law_draw : PySem.W.keepIn K (.ref (fA 202)) = true
  F__law_carried : Fun K "_law_carried" "_law_carried" s__law_carried (fA 203) (fD 203)
  b__law_carried : Binds K (fD 203) ps__law_carried []
  m__law_carried : mg "_law_carried" = some (.ref (fA 203))
  k__law_carried : PySem.W.keepIn K (.ref (fA 203)) = true
  F__law_good : Fun K "_law_good" "_law_good" s__law_good (fA 204) (fD 204)
  b__law_good : Binds K (fD 204) ps__law_good []
  m__law_good : mg "_law_good" = some (.ref (fA 204))
  k__law_good : PySem.W.keepIn K (.ref (fA 204)) = true
  F_law : Fun K "law" "law" s_law (fA 205) (fD 205)
  b_law : Binds K (fD 205) ps_law []
  m_law : mg "law" = some (.ref (fA 205))
  k_law : PySem.W.keepIn K (.ref (fA 205)) = true
  C_Giver : Cls K (cA 14)
  x_Giver : mg "Giver" = some (.ref (cA 14))
  C_Taker : Cls K (cA 15)
  x_Taker : mg "Taker" = some (.ref (cA 15))
  A_Giver_window : NoAttr K (cA 14) "window"
  A_Giver_most : NoAttr K (cA 14) "most"
  A_Giver_last : NoAttr K (cA 14) "last"
  A_Giver_waiting : NoAttr K (cA 14) "waiting"
  A_Giver_flying : NoAttr K (cA 14) "flying"
  A_Taker_numbers : NoAttr K (cA 15) "numbers"
  z_all : mg "all" = none
  z_len : mg "len" = none
  z_ord : mg "ord" = none
  z_range : mg "range" = none
  z_str : mg "str" = none
  g_MOST_BODY : ∃ t, mg "MOST_BODY" = some (.int 300 t)
  g_MOST_ID : ∃ t, mg "MOST_ID" = some (.int 65535 t)
  g_MOST_LEVELS : ∃ t, mg "MOST_LEVELS" = some (.int 8 t)
  g_MOST_SIGNS : ∃ t, mg "MOST_SIGNS" = some (.int 12 t)
  g_MOST_WINDOW : ∃ t, mg "MOST_WINDOW" = some (.int 20 t)
  x_BadName : mg "BadName" = some (.ref (cA 1))
  y_BadName : PySem.W.excIn K (cA 1) [.type "ValueError", .type "Exception", .type "BaseException", .type "object"] "ValueError.__new__" = true
  w_BadName : PySem.W.keepIn K (.ref (cA 1)) = true
  v_BadName : PySem.W.subIn K (.ref (cA 1)) (.type "BaseException") = some true
  u_BadName : PySem.W.typeIn K (.ref (cA 1)) = some (.type "type")
  x_BadPacket : mg "BadPacket" = some (.ref (cA 2))
  y_BadPacket : PySem.W.excIn K (cA 2) [.type "ValueError", .type "Exception", .type "BaseException", .type "object"] "ValueError.__new__" = true
  w_BadPacket : PySem.W.keepIn K (.ref (cA 2)) = true
  v_BadPacket : PySem.W.subIn K (.ref (cA 2)) (.type "BaseException") = some true
  u_BadPacket : PySem.W.typeIn K (.ref (cA 2)) = some (.type "type")
  x_BadLine : mg "BadLine" = some (.ref (cA 4))
  y_BadLine : PySem.W.excIn K (cA 4) [.type "ValueError", .type "Exception", .type "BaseException", .type "object"] "ValueError.__new__" = true
  w_BadLine : PySem.W.keepIn K (.ref (cA 4)) = true
  v_BadLine : PySem.W.subIn K (.ref (cA 4)) (.type "BaseException") = some true
  u_BadLine : PySem.W.typeIn K (.ref (cA 4)) = some (.type "type")
section
variable {P : Program} {w : World} {K : PySem.W.Frag} {mg : Str → Option Value} {base : Heap} {fA cA : Nat → Addr} {fD : Nat → FuncData}
structure Oks (P : Program) (w : World) (K : PySem.W.Frag) (mg : Str → Option Value) (base : Heap) (fA cA : Nat → Addr) (fD : Nat → FuncData) (k : Nat) : Prop where
  o_is_level : FnOk P w K mg base (L2.CX P w) (2 * k) (fA 0) (fD 0) ps_is_level (spC (L0 K cA) (run k 0))
  o_look_name : FnOk P w K mg base (L2.CX P w) (2 * k) (fA 1) (fD 1) ps_look_name (spC (L0 K cA) (run k 1))
  o_look_grade : FnOk P w K mg base (L2.CX P w) (2 * k) (fA 4) (fD 4) ps_look_grade (spC (L0 K cA) (run k 4))
  o_must : FnOk P w K mg base (L2.CX P w) (2 * k) (fA 25) (fD 25) ps_must (spC (L0 K cA) (run k 25))
  o_is_body : FnOk P w K mg base (L2.CX P w) (2 * k) (fA 26) (fD 26) ps_is_body (spC (L0 K cA) (run k 26))
  o_look_tiding : FnOk P w K mg base (L2.CX P w) (2 * k) (fA 28) (fD 28) ps_look_tiding (spC (L0 K cA) (run k 28))
  o_look_ends : FnOk P w K mg base (L2.CX P w) (2 * k) (fA 53) (fD 53) ps_look_ends (spC (L0 K cA) (run k 53))
  o_Giver___init__ : FnOk P w K mg base (L2.CX P w) (2 * k) (fA 54) (fD 54) ps_Giver___init__ (spC (L0 K cA) (run k 54))
  o_Giver_number : FnOk P w K mg base (L2.CX P w) (2 * k) (fA 55) (fD 55) ps_Giver_number (spC (L0 K cA) (run k 55))
  o_Giver_pump : FnOk P w K mg base (L2.CX P w) (2 * k) (fA 56) (fD 56) ps_Giver_pump (spC (L0 K cA) (run k 56))
  o_Giver_keep : FnOk P w K mg base (L2.CX P w) (2 * k) (fA 57) (fD 57) ps_Giver_keep (spC (L0 K cA) (run k 57))
  o_Giver_say : FnOk P w K mg base (L2.CX P w) (2 * k) (fA 58) (fD 58) ps_Giver_say (spC (L0 K cA) (run k 58))
  o_Giver_place_of : FnOk P w K mg base (L2.CX P w) (2 * k) (fA 59) (fD 59) ps_Giver_place_of (spC (L0 K cA) (run k 59))
  o_Giver_took : FnOk P w K mg base (L2.CX P w) (2 * k) (fA 60) (fD 60) ps_Giver_took (spC (L0 K cA) (run k 60))
  o_Giver_again : FnOk P w K mg base (L2.CX P w) (2 * k) (fA 61) (fD 61) ps_Giver_again (spC (L0 K cA) (run k 61))
  o_Giver_many : FnOk P w K mg base (L2.CX P w) (2 * k) (fA 62) (fD 62) ps_Giver_many (spC (L0 K cA) (run k 62))
  o_Taker___init__ : FnOk P w K mg base (L2.CX P w) (2 * k) (fA 63) (fD 63) ps_Taker___init__ (spC (L0 K cA) (run k 63))
  o_Taker_took : FnOk P w K mg base (L2.CX P w) (2 * k) (fA 64) (fD 64) ps_Taker_took (spC (L0 K cA) (run k 64))
  o__law_cell : FnOk P w K mg base (L2.CX P w) (2 * k) (fA 200) (fD 200) ps__law_cell (spC (L0 K cA) (run k 200))
  o__law_mix : FnOk P w K mg base (L2.CX P w) (2 * k) (fA 201) (fD 201) ps__law_mix (spC (L0 K cA) (run k 201))
  o__law_draw : FnOk P w K mg base (L2.CX P w) (2 * k) (fA 202) (fD 202) ps__law_draw (spC (L0 K cA) (run k 202))
  o__law_carried : FnOk P w K mg base (L2.CX P w) (2 * k) (fA 203) (fD 203) ps__law_carried (spC (L0 K cA) (run k 203))
  o__law_good : FnOk P w K mg base (L2.CX P w) (2 * k) (fA 204) (fD 204) ps__law_good (spC (L0 K cA) (run k 204))
  o_law : FnOk P w K mg base (L2.CX P w) (2 * k) (fA 205) (fD 205) ps_law (spC (L0 K cA) (run k 205))
theorem okf_window (T : Txt K mg fA fD cA) : ∀ c, ok_window c = true → Cls K (cA c) ∧ NoAttr K (cA c) "window" := by
  intro c h
  unfold ok_window at h
  split at h
  · exact ⟨T.C_Giver, T.A_Giver_window⟩
  · cases h
theorem okf_most (T : Txt K mg fA fD cA) : ∀ c, ok_most c = true → Cls K (cA c) ∧ NoAttr K (cA c) "most" := by
  intro c h
  unfold ok_most at h
  split at h
  · exact ⟨T.C_Giver, T.A_Giver_most⟩
  · cases h
theorem okf_last (T : Txt K mg fA fD cA) : ∀ c, ok_last c = true → Cls K (cA c) ∧ NoAttr K (cA c) "last" := by
  intro c h
  unfold ok_last at h
  split at h
  · exact ⟨T.C_Giver, T.A_Giver_last⟩
  · cases h
theorem okf_waiting (T : Txt K mg fA fD cA) : ∀ c, ok_waiting c = true → Cls K (cA c) ∧ NoAttr K (cA c) "waiting" := by
  intro c h
  unfold ok_waiting at h
  split at h
  · exact ⟨T.C_Giver, T.A_Giver_waiting⟩
  · cases h
theorem okf_flying (T : Txt K mg fA fD cA) : ∀ c, ok_flying c = true → Cls K (cA c) ∧ NoAttr K (cA c) "flying" := by
  intro c h
  unfold ok_flying at h
  split at h
  · exact ⟨T.C_Giver, T.A_Giver_flying⟩
  · cases h
theorem okf_numbers (T : Txt K mg fA fD cA) : ∀ c, ok_numbers c = true → Cls K (cA c) ∧ NoAttr K (cA c) "numbers" := by
  intro c h
  unfold ok_numbers at h
  split at h
  · exact ⟨T.C_Taker, T.A_Taker_numbers⟩
  · cases h
theorem mth_again {k : Nat} (T : Txt K mg fA fD cA) (I : Oks P w K mg base fA cA fD k) : ∀ cl fi, mt_again cl = some fi → MethAt P w K mg base (L0 K cA) (run k) (2 * k) "again" cl fi := by
  intro cl fi h
  unfold mt_again at h
  split at h
  · cases h; exact ⟨_, _, _, T.C_Giver, T.M_Giver_again, I.o_Giver_again, T.b_Giver_again⟩
  · cases h
theorem mth_keep {k : Nat} (T : Txt K mg fA fD cA) (I : Oks P w K mg base fA cA fD k) : ∀ cl fi, mt_keep cl = some fi → MethAt P w K mg base (L0 K cA) (run k) (2 * k) "keep" cl fi := by
  intro cl fi h
  unfold mt_keep at h
  split at h
  · cases h; exact ⟨_, _, _, T.C_Giver, T.M_Giver_keep, I.o_Giver_keep, T.b_Giver_keep⟩
  · cases h
theorem mth_many {k : Nat} (T : Txt K mg fA fD cA) (I : Oks P w K mg base fA cA fD k) : ∀ cl fi, mt_many cl = some fi → MethAt P w K mg base (L0 K cA) (run k) (2 * k) "many" cl fi := by
  intro cl fi h
  unfold mt_many at h
  split at h
  · cases h; exact ⟨_, _, _, T.C_Giver, T.M_Giver_many, I.o_Giver_many, T.b_Giver_many⟩
  · cases h
theorem mth_number {k : Nat} (T : Txt K mg fA fD cA) (I : Oks P w K mg base fA cA fD k) : ∀ cl fi, mt_number cl = some fi → MethAt P w K mg base (L0 K cA) (run k) (2 * k) "number" cl fi := by
  intro cl fi h
  unfold mt_number at h
  split at h
  · cases h; exact ⟨_, _, _, T.C_Giver, T.M_Giver_number, I.o_Giver_number, T.b_Giver_number⟩
  · cases h
theorem mth_place_of {k : Nat} (T : Txt K mg fA fD cA) (I : Oks P w K mg base fA cA fD k) : ∀ cl fi, mt_place_of cl = some fi → MethAt P w K mg base (L0 K cA) (run k) (2 * k) "place_of" cl fi := by
  intro cl fi h
  unfold mt_place_of at h
  split at h
  · cases h; exact ⟨_, _, _, T.C_Giver, T.M_Giver_place_of, I.o_Giver_place_of, T.b_Giver_place_of⟩
  · cases h
theorem mth_pump {k : Nat} (T : Txt K mg fA fD cA) (I : Oks P w K mg base fA cA fD k) : ∀ cl fi, mt_pump cl = some fi → MethAt P w K mg base (L0 K cA) (run k) (2 * k) "pump" cl fi := by
  intro cl fi h
  unfold mt_pump at h
  split at h
  · cases h; exact ⟨_, _, _, T.C_Giver, T.M_Giver_pump, I.o_Giver_pump, T.b_Giver_pump⟩
  · cases h
theorem mth_say {k : Nat} (T : Txt K mg fA fD cA) (I : Oks P w K mg base fA cA fD k) : ∀ cl fi, mt_say cl = some fi → MethAt P w K mg base (L0 K cA) (run k) (2 * k) "say" cl fi := by
  intro cl fi h
  unfold mt_say at h
  split at h
  · cases h; exact ⟨_, _, _, T.C_Giver, T.M_Giver_say, I.o_Giver_say, T.b_Giver_say⟩
  · cases h
theorem mth_took {k : Nat} (T : Txt K mg fA fD cA) (I : Oks P w K mg base fA cA fD k) : ∀ cl fi, mt_took cl = some fi → MethAt P w K mg base (L0 K cA) (run k) (2 * k) "took" cl fi := by
  intro cl fi h
  unfold mt_took at h
  split at h
  · cases h; exact ⟨_, _, _, T.C_Giver, T.M_Giver_took, I.o_Giver_took, T.b_Giver_took⟩
  · cases h; exact ⟨_, _, _, T.C_Taker, T.M_Taker_took, I.o_Taker_took, T.b_Taker_took⟩
  · cases h
theorem sc_is_level : FnScope N_is_level ps_is_level (defScope s_is_level) := ⟨rfl, rfl, rfl, by decide +kernel, rfl, by decide +kernel, by decide +kernel⟩
theorem ok_is_level {k : Nat} (T : Txt K mg fA fD cA) (I : Oks P w K mg base fA cA fD k) : FnOk P w K mg base (L2.CX P w) (2 * (k + 1)) (fA 0) (fD 0) ps_is_level (spC (L0 K cA) (run (k + 1) 0)) := by
  refine fn_ok (k := 2 * k + 1) (n := 1) (sl := 2) (sm := PG.B_is_level G0 (run k)) T.F_is_level sc_is_level rfl rfl fun cdv A outer s H E hr => ?_
  have hr0 := hr.mono (show 2 * k ≤ 2 * k + 1 by omega)
  have hu := hr.units
  have hu5 := units65 hr
  have nd := sc_is_level.nd
  exact (ds_cons (ds_if (dt_cmp (fun _ _ _ _ h => bl_gt h) (op_gtV) (de_blt (cr_lenV rfl) T.z_len (by decide +kernel) (da_cons (de_var (i := 0)) da_nil)) (deg_int T.g_MOST_SIGNS)) (ds_one (ds_ret de_bl)) ds_nil)
    (ds_one (ds_ret (de_blt (cr_allV rfl rfl) T.z_all (by decide +kernel) (da_cons (de_new (dl_comp rfl nd (blkOk_by (N := N_is_level) (sc := defScope s_is_level) (own := [("sign", 1)]) (by decide +kernel)) (di_val rfl (de_var (i := 0))) (fun _ _ _ _ _ => (dg_name (i := 1) nd)) (fun _ _ _ _ _ => dts_nil) (fun _ _ _ _ _ => (de_and rfl (de_chain (op_leV) (op_ltV) de_int (de_blt (cr_ordV) T.z_ord (by decide +kernel) (da_cons (de_var (i := 1)) da_nil)) de_int) (de_and rfl (de_cmp (op_neV rfl hu) (de_blt (cr_ordV) T.z_ord (by decide +kernel) (da_cons (de_var (i := 1)) da_nil)) de_int) (de_one (de_cmp (op_notInV rfl hu5) (de_var (i := 1)) de_str))))))) da_nil)))))
theorem sc_look_name : FnScope N_look_name ps_look_name (defScope s_look_name) := ⟨rfl, rfl, rfl, by decide +kernel, rfl, by decide +kernel, by decide +kernel⟩
theorem ok_look_name {k : Nat} (T : Txt K mg fA fD cA) (I : Oks P w K mg base fA cA fD k) : FnOk P w K mg base (L2.CX P w) (2 * (k + 1)) (fA 1) (fD 1) ps_look_name (spC (L0 K cA) (run (k + 1) 1)) := by
  refine fn_ok (k := 2 * k + 1) (n := 1) (sl := 3) (sm := PG.B_look_name G0 (run k)) T.F_look_name sc_look_name rfl rfl fun cdv A outer s H E hr => ?_
  have hr0 := hr.mono (show 2 * k ≤ 2 * k + 1 by omega)
  have hu := hr.units
  have hu5 := units65 hr
  have nd := sc_look_name.nd
  exact (ds_cons (ds_set (i := 1) nd (de_new (dl_split rfl (de_var (i := 0)) de_str)))
    (ds_one (ds_if (PW.pt (dw_or (dt_cmp (fun _ _ _ _ h => bl_eq h) (op_eqV rfl hu) (de_var (i := 0)) de_str) (dw_or (dt_cmp (fun _ _ _ _ h => bl_gt h) (op_gtV) (de_blt (cr_lenV rfl) T.z_len (by decide +kernel) (da_cons (de_var (i := 1)) da_nil)) (deg_int T.g_MOST_LEVELS)) (dw_one (dt_not (dt_truth rfl (de_blt (cr_allV rfl rfl) T.z_all (by decide +kernel) (da_cons (de_new (dl_comp rfl nd (blkOk_by (N := N_look_name) (sc := defScope s_look_name) (own := [("level", 2)]) (by decide +kernel)) (di_val rfl (de_var (i := 1))) (fun _ _ _ _ _ => (dg_name (i := 2) nd)) (fun _ _ _ _ _ => dts_nil) (fun _ _ _ _ _ => (de_call takes0 I.o_is_level hr0 T.m_is_level T.k_is_level T.b_is_level (da_cons (de_var (i := 2)) da_nil))))) da_nil)))))))) (ds_one (ds_raise (c := 1) rfl (takes_of rfl rfl rfl rfl) (pmk_own PySem.F.excBase_ValueError T.y_BadName T.x_BadName T.w_BadName (raises_own T.v_BadName T.u_BadName) rfl))) ds_nil)))
theorem sc_look_grade : FnScope N_look_grade ps_look_grade (defScope s_look_grade) := ⟨rfl, rfl, rfl, by decide +kernel, rfl, by decide +kernel, by decide +kernel⟩
theorem ok_look_grade {k : Nat} (T : Txt K mg fA fD cA) (I : Oks P w K mg base fA cA fD k) : FnOk P w K mg base (L2.CX P w) (2 * (k + 1)) (fA 4) (fD 4) ps_look_grade (spC (L0 K cA) (run (k + 1) 4)) := by
  refine fn_ok (k := 2 * k + 1) (n := 1) (sl := 1) (sm := PG.B_look_grade G0 (run k)) T.F_look_grade sc_look_grade rfl rfl fun cdv A outer s H E hr => ?_
  have hr0 := hr.mono (show 2 * k ≤ 2 * k + 1 by omega)
  have hu := hr.units
  have hu5 := units65 hr
  have nd := sc_look_grade.nd
  exact (ds_one (ds_if (dt_not (dt_chain (fun _ _ _ _ h => bl_le h) (op_leV) (op_leV) de_int (de_var (i := 0)) de_int)) (ds_one (ds_raise (c := 1) rfl (takes_of rfl rfl rfl rfl) (pmk_own PySem.F.excBase_ValueError T.y_BadName T.x_BadName T.w_BadName (raises_own T.v_BadName T.u_BadName) rfl))) ds_nil))
theorem sc_must : FnScope N_must ps_must (defScope s_must) := ⟨rfl, rfl, rfl, by decide +kernel, rfl, by decide +kernel, by decide +kernel⟩
theorem ok_must {k : Nat} (T : Txt K mg fA fD cA) (I : Oks P w K mg base fA cA fD k) : FnOk P w K mg base (L2.CX P w) (2 * (k + 1)) (fA 25) (fD 25) ps_must (spC (L0 K cA) (run (k + 1) 25)) := by
  refine fn_ok (k := 2 * k + 1) (n := 1) (sl := 1) (sm := PG.B_must G0 (run k)) T.F_must sc_must rfl rfl fun cdv A outer s H E hr => ?_
  have hr0 := hr.mono (show 2 * k ≤ 2 * k + 1 by omega)
  have hu := hr.units
  have hu5 := units65 hr
  have nd := sc_must.nd
  exact (ds_one (ds_if (dt_not (dt_truth rfl (de_var (i := 0)))) (ds_one (ds_raise (c := 2) rfl (takes_of rfl rfl rfl rfl) (pmk_own PySem.F.excBase_ValueError T.y_BadPacket T.x_BadPacket T.w_BadPacket (raises_own T.v_BadPacket T.u_BadPacket) rfl))) ds_nil))
theorem sc_is_body : FnScope N_is_body ps_is_body (defScope s_is_body) := ⟨rfl, rfl, rfl, by decide +kernel, rfl, by decide +kernel, by decide +kernel⟩
theorem ok_is_body {k : Nat} (T : Txt K mg fA fD cA) (I : Oks P w K mg base fA cA fD k) : FnOk P w K mg base (L2.CX P w) (2 * (k + 1)) (fA 26) (fD 26) ps_is_body (spC (L0 K cA) (run (k + 1) 26)) := by
  refine fn_ok (k := 2 * k + 1) (n := 1) (sl := 2) (sm := PG.B_is_body G0 (run k)) T.F_is_body sc_is_body rfl rfl fun cdv A outer s H E hr => ?_
  have hr0 := hr.mono (show 2 * k ≤ 2 * k + 1 by omega)
  have hu := hr.units
  have hu5 := units65 hr
  have nd := sc_is_body.nd
  exact (ds_one (ds_ret (de_and rfl (de_cmp (op_leV) (de_blt (cr_lenV rfl) T.z_len (by decide +kernel) (da_cons (de_var (i := 0)) da_nil)) (deg_int T.g_MOST_BODY)) (de_one (de_blt (cr_allV rfl rfl) T.z_all (by decide +kernel) (da_cons (de_new (dl_comp rfl nd (blkOk_by (N := N_is_body) (sc := defScope s_is_body) (own := [("sign", 1)]) (by decide +kernel)) (di_val rfl (de_var (i := 0))) (fun _ _ _ _ _ => (dg_name (i := 1) nd)) (fun _ _ _ _ _ => dts_nil) (fun _ _ _ _ _ => (de_and rfl (de_chain (op_leV) (op_ltV) de_int (de_blt (cr_ordV) T.z_ord (by decide +kernel) (da_cons (de_var (i := 1)) da_nil)) de_int) (de_one (de_cmp (op_neV rfl hu) (de_blt (cr_ordV) T.z_ord (by decide +kernel) (da_cons (de_var (i := 1)) da_nil)) de_int)))))) da_nil))))))
theorem sc_look_tiding : FnScope N_look_tiding ps_look_tiding (defScope s_look_tiding) := ⟨rfl, rfl, rfl, by decide +kernel, rfl, by decide +kernel, by decide +kernel⟩
theorem ok_look_tiding {k : Nat} (T : Txt K mg fA fD cA) (I : Oks P w K mg base fA cA fD k) : FnOk P w K mg base (L2.CX P w) (2 * (k + 1)) (fA 28) (fD 28) ps_look_tiding (spC (L0 K cA) (run (k + 1) 28)) := by
  refine fn_ok (k := 2 * k + 1) (n := 4) (sl := 4) (sm := PG.B_look_tiding G0 (run k)) T.F_look_tiding sc_look_tiding rfl rfl fun cdv A outer s H E hr => ?_
  have hr0 := hr.mono (show 2 * k ≤ 2 * k + 1 by omega)
  have hu := hr.units
  have hu5 := units65 hr
  have nd := sc_look_tiding.nd
  exact (ds_cons (ds_expr (de_call (takes_of rfl rfl rfl rfl) I.o_look_name hr0 T.m_look_name T.k_look_name T.b_look_name (da_cons (de_var (i := 0)) da_nil)))
    (ds_cons (ds_expr (de_call (takes_of rfl rfl rfl rfl) I.o_look_grade hr0 T.m_look_grade T.k_look_grade T.b_look_grade (da_cons (de_var (i := 2)) da_nil)))
    (ds_one (ds_expr (de_call (takes_of rfl rfl rfl rfl) I.o_must hr0 T.m_must T.k_must T.b_must (da_cons (de_and rfl (de_call (takes_of rfl rfl rfl rfl) I.o_is_body hr0 T.m_is_body T.k_is_body T.b_is_body (da_cons (de_var (i := 1)) da_nil)) (de_one (de_cmp (op_inV rfl hu5) (de_var (i := 3)) (de_tup (da_cons de_bl (da_cons de_bl da_nil)))))) da_nil))))))
theorem sc_look_ends : FnScope N_look_ends ps_look_ends (defScope s_look_ends) := ⟨rfl, rfl, rfl, by decide +kernel, rfl, by decide +kernel, by decide +kernel⟩
theorem ok_look_ends {k : Nat} (T : Txt K mg fA fD cA) (I : Oks P w K mg base fA cA fD k) : FnOk P w K mg base (L2.CX P w) (2 * (k + 1)) (fA 53) (fD 53) ps_look_ends (spC (L0 K cA) (run (k + 1) 53)) := by
  refine fn_ok (k := 2 * k + 1) (n := 2) (sl := 2) (sm := PG.B_look_ends G0 (run k)) T.F_look_ends sc_look_ends rfl rfl fun cdv A outer s H E hr => ?_
  have hr0 := hr.mono (show 2 * k ≤ 2 * k + 1 by omega)
  have hu := hr.units
  have hu5 := units65 hr
  have nd := sc_look_ends.nd
  exact (ds_one (ds_if (PW.pt (dw_or (dt_not (dt_chain (fun _ _ _ _ h => bl_le h) (op_leV) (op_leV) de_int (de_var (i := 0)) (deg_int T.g_MOST_WINDOW))) (dw_one (dt_not (dt_chain (fun _ _ _ _ h => bl_le h) (op_leV) (op_leV) (de_var (i := 0)) (de_var (i := 1)) (deg_int T.g_MOST_ID)))))) (ds_one (ds_raise (c := 4) rfl (takes_of rfl rfl rfl rfl) (pmk_own PySem.F.excBase_ValueError T.y_BadLine T.x_BadLine T.w_BadLine (raises_own T.v_BadLine T.u_BadLine) rfl))) ds_nil))
theorem sc_Giver___init__ : FnScope N_Giver___init__ ps_Giver___init__ (defScope s_Giver___init__) := ⟨rfl, rfl, rfl, by decide +kernel, rfl, by decide +kernel, by decide +kernel⟩
theorem ok_Giver___init__ {k : Nat} (T : Txt K mg fA fD cA) (I : Oks P w K mg base fA cA fD k) : FnOk P w K mg base (L2.CX P w) (2 * (k + 1)) (fA 54) (fD 54) ps_Giver___init__ (spC (L0 K cA) (run (k + 1) 54)) := by
  refine fn_ok (k := 2 * k + 1) (n := 3) (sl := 3) (sm := PG.B_Giver___init__ G0 (run k)) T.F_Giver___init__ sc_Giver___init__ rfl rfl fun cdv A outer s H E hr => ?_
  have hr0 := hr.mono (show 2 * k ≤ 2 * k + 1 by omega)
  have hu := hr.units
  have hu5 := units65 hr
  have nd := sc_Giver___init__.nd
  exact (ds_cons (ds_expr (de_call (takes_of rfl rfl rfl rfl) I.o_look_ends hr0 T.m_look_ends T.k_look_ends T.b_look_ends (da_cons (de_var (i := 1)) (da_cons (de_var (i := 2)) da_nil))))
    (ds_cons (ds_fld (L := L0 K cA) (k := 7) rfl fj_7 (okf_window T) (de_var (i := 1)) (de_var (i := 0)))
    (ds_cons (ds_fld (L := L0 K cA) (k := 8) rfl fj_8 (okf_most T) (de_var (i := 2)) (de_var (i := 0)))
    (ds_cons (ds_fld (L := L0 K cA) (k := 9) rfl fj_9 (okf_last T) de_int (de_var (i := 0)))
    (ds_cons (ds_fld (L := L0 K cA) (k := 10) rfl fj_10 (okf_waiting T) (de_mut (dl_lst da_nil)) (de_var (i := 0)))
    (ds_one (ds_fld (L := L0 K cA) (k := 11) rfl fj_11 (okf_flying T) (de_mut (dl_lst da_nil)) (de_var (i := 0)))))))))
theorem sc_Giver_number : FnScope N_Giver_number ps_Giver_number (defScope s_Giver_number) := ⟨rfl, rfl, rfl, by decide +kernel, rfl, by decide +kernel, by decide +kernel⟩
theorem ok_Giver_number {k : Nat} (T : Txt K mg fA fD cA) (I : Oks P w K mg base fA cA fD k) : FnOk P w K mg base (L2.CX P w) (2 * (k + 1)) (fA 55) (fD 55) ps_Giver_number (spC (L0 K cA) (run (k + 1) 55)) := by
  refine fn_ok (k := 2 * k + 1) (n := 1) (sl := 3) (sm := PG.B_Giver_number G0 (run k)) T.F_Giver_number sc_Giver_number rfl rfl fun cdv A outer s H E hr => ?_
  have hr0 := hr.mono (show 2 * k ≤ 2 * k + 1 by omega)
  have hu := hr.units
  have hu5 := units65 hr
  have nd := sc_Giver_number.nd
  exact (ds_cons (ds_setC (i := 1) (.inl rfl) rfl nd (blkOk_by (N := N_Giver_number) (sc := defScope s_Giver_number) (own := [("entry", 2)]) (by decide +kernel)) (di_val rfl (de_fld (L := L0 K cA) (k := 11) rfl rfl fj_11 (okf_flying T) (de_var (i := 0)))) (fun _ _ _ _ _ => (dg_name (i := 2) nd)) (fun _ _ _ _ _ => dts_nil) (fun _ _ _ _ _ => (de_ix (op_ixV rfl) (de_var (i := 2)) de_int)))
    (ds_cons (ds_fld (L := L0 K cA) (k := 9) rfl fj_9 (okf_last T) (de_if (dt_cmp (fun _ _ _ _ h => bl_lt h) (op_ltV) (de_fld (L := L0 K cA) (k := 9) rfl rfl fj_9 (okf_last T) (de_var (i := 0))) (de_fld (L := L0 K cA) (k := 8) rfl rfl fj_8 (okf_most T) (de_var (i := 0)))) (de_bin (op_addV rfl) (de_fld (L := L0 K cA) (k := 9) rfl rfl fj_9 (okf_last T) (de_var (i := 0))) de_int) de_int) (de_var (i := 0)))
    (ds_cons (ds_while (passes_of rfl) (dt_cmp (fun _ _ _ _ h => bl_in h) (op_inV rfl hu5) (de_fld (L := L0 K cA) (k := 9) rfl rfl fj_9 (okf_last T) (de_var (i := 0))) (de_var (i := 1))) (ds_one (ds_fld (L := L0 K cA) (k := 9) rfl fj_9 (okf_last T) (de_if (dt_cmp (fun _ _ _ _ h => bl_lt h) (op_ltV) (de_fld (L := L0 K cA) (k := 9) rfl rfl fj_9 (okf_last T) (de_var (i := 0))) (de_fld (L := L0 K cA) (k := 8) rfl rfl fj_8 (okf_most T) (de_var (i := 0)))) (de_bin (op_addV rfl) (de_fld (L := L0 K cA) (k := 9) rfl rfl fj_9 (okf_last T) (de_var (i := 0))) de_int) de_int) (de_var (i := 0)))))
    (ds_one (ds_ret (de_fld (L := L0 K cA) (k := 9) rfl rfl fj_9 (okf_last T) (de_var (i := 0))))))))
theorem sc_Giver_pump : FnScope N_Giver_pump ps_Giver_pump (defScope s_Giver_pump) := ⟨rfl, rfl, rfl, by decide +kernel, rfl, by decide +kernel, by decide +kernel⟩
theorem ok_Giver_pump {k : Nat} (T : Txt K mg fA fD cA) (I : Oks P w K mg base fA cA fD k) : FnOk P w K mg base (L2.CX P w) (2 * (k + 1)) (fA 56) (fD 56) ps_Giver_pump (spC (L0 K cA) (run (k + 1) 56)) := by
  refine fn_ok (k := 2 * k + 1) (n := 1) (sl := 7) (sm := PG.B_Giver_pump G0 (run k)) T.F_Giver_pump sc_Giver_pump rfl rfl fun cdv A outer s H E hr => ?_
  have hr0 := hr.mono (show 2 * k ≤ 2 * k + 1 by omega)
  have hu := hr.units
  have hu5 := units65 hr
  have nd := sc_Giver_pump.nd
  exact (ds_cons (ds_set (i := 1) nd (de_mut (dl_lst da_nil)))
    (ds_cons (ds_while (passes_of rfl) (PW.pt (dw_and (dt_truth rfl (de_fld (L := L0 K cA) (k := 10) rfl rfl fj_10 (okf_waiting T) (de_var (i := 0)))) (dw_one (dt_cmp (fun _ _ _ _ h => bl_lt h) (op_ltV) (de_blt (cr_lenV rfl) T.z_len (by decide +kernel) (da_cons (de_fld (L := L0 K cA) (k := 11) rfl rfl fj_11 (okf_flying T) (de_var (i := 0))) da_nil)) (de_fld (L := L0 K cA) (k := 7) rfl rfl fj_7 (okf_window T) (de_var (i := 0))))))) (ds_cons (ds_tgt (de_ix (op_ixV rfl) (de_fld (L := L0 K cA) (k := 10) rfl rfl fj_10 (okf_waiting T) (de_var (i := 0))) de_int) (dg_tup (is := [3, 4, 5, 6]) rfl rfl (pgs_cons (pg_name (i := 3) nd rfl (by first | exact Or.inl rfl | exact Or.inr rfl)) (pgs_cons (pg_name (i := 4) nd rfl (by first | exact Or.inl rfl | exact Or.inr rfl)) (pgs_cons (pg_name (i := 5) nd rfl (by first | exact Or.inl rfl | exact Or.inr rfl)) (pgs_cons (pg_name (i := 6) nd rfl (by first | exact Or.inl rfl | exact Or.inr rfl)) pgs_nil))))))
    (ds_cons (ds_fld (L := L0 K cA) (k := 10) rfl fj_10 (okf_waiting T) (de_mut (dl_sl rfl (de_fld (L := L0 K cA) (k := 10) rfl rfl fj_10 (okf_waiting T) (de_var (i := 0))) (dp_some de_int) dp_none)) (de_var (i := 0)))
    (ds_cons (ds_set (i := 2) nd (de_meth0 (L := L0 K cA) (nf := 32) (mt := G0.mt 27) (takes_of rfl rfl rfl rfl) (mth_number T I) hr0 nm_number (de_var (i := 0))))
    (ds_cons (ds_expr (de_app rfl (de_fld (L := L0 K cA) (k := 11) rfl rfl fj_11 (okf_flying T) (de_var (i := 0))) (de_tup (da_cons (de_var (i := 2)) (da_cons (de_var (i := 5)) (da_cons (de_tup (da_cons (de_var (i := 3)) (da_cons (de_var (i := 4)) (da_cons (de_var (i := 5)) (da_cons (de_var (i := 6)) da_nil))))) da_nil))))))
    (ds_one (ds_expr (de_app rfl (de_var (i := 1)) (de_tup (da_cons de_str (da_cons (de_var (i := 3)) (da_cons (de_var (i := 4)) (da_cons (de_var (i := 5)) (da_cons (de_var (i := 6)) (da_cons de_bl (da_cons (de_var (i := 2)) da_nil))))))))))))))))
    (ds_one (ds_ret (de_frz (de_var (i := 1)))))))
theorem sc_Giver_keep : FnScope N_Giver_keep ps_Giver_keep (defScope s_Giver_keep) := ⟨rfl, rfl, rfl, by decide +kernel, rfl, by decide +kernel, by decide +kernel⟩
theorem ok_Giver_keep {k : Nat} (T : Txt K mg fA fD cA) (I : Oks P w K mg base fA cA fD k) : FnOk P w K mg base (L2.CX P w) (2 * (k + 1)) (fA 57) (fD 57) ps_Giver_keep (spC (L0 K cA) (run (k + 1) 57)) := by
  refine fn_ok (k := 2 * k + 1) (n := 5) (sl := 5) (sm := PG.B_Giver_keep G0 (run k)) T.F_Giver_keep sc_Giver_keep rfl rfl fun cdv A outer s H E hr => ?_
  have hr0 := hr.mono (show 2 * k ≤ 2 * k + 1 by omega)
  have hu := hr.units
  have hu5 := units65 hr
  have nd := sc_Giver_keep.nd
  exact (ds_cons (ds_expr (de_call (takes_of rfl rfl rfl rfl) I.o_look_tiding hr0 T.m_look_tiding T.k_look_tiding T.b_look_tiding (da_cons (de_var (i := 1)) (da_cons (de_var (i := 2)) (da_cons (de_var (i := 3)) (da_cons (de_var (i := 4)) da_nil))))))
    (ds_one (ds_if (dt_cmp (fun _ _ _ _ h => bl_gt h) (op_gtV) (de_var (i := 3)) de_int) (ds_one (ds_expr (de_app rfl (de_fld (L := L0 K cA) (k := 10) rfl rfl fj_10 (okf_waiting T) (de_var (i := 0))) (de_tup (da_cons (de_var (i := 1)) (da_cons (de_var (i := 2)) (da_cons (de_var (i := 3)) (da_cons (de_var (i := 4)) da_nil)))))))) ds_nil)))
theorem sc_Giver_say : FnScope N_Giver_say ps_Giver_say (defScope s_Giver_say) := ⟨rfl, rfl, rfl, by decide +kernel, rfl, by decide +kernel, by decide +kernel⟩
theorem ok_Giver_say {k : Nat} (T : Txt K mg fA fD cA) (I : Oks P w K mg base fA cA fD k) : FnOk P w K mg base (L2.CX P w) (2 * (k + 1)) (fA 58) (fD 58) ps_Giver_say (spC (L0 K cA) (run (k + 1) 58)) := by
  refine fn_ok (k := 2 * k + 1) (n := 5) (sl := 5) (sm := PG.B_Giver_say G0 (run k)) T.F_Giver_say sc_Giver_say rfl rfl fun cdv A outer s H E hr => ?_
  have hr0 := hr.mono (show 2 * k ≤ 2 * k + 1 by omega)
  have hu := hr.units
  have hu5 := units65 hr
  have nd := sc_Giver_say.nd
  exact (ds_cons (ds_expr (de_call (takes_of rfl rfl rfl rfl) I.o_look_tiding hr0 T.m_look_tiding T.k_look_tiding T.b_look_tiding (da_cons (de_var (i := 1)) (da_cons (de_var (i := 2)) (da_cons (de_var (i := 3)) (da_cons (de_var (i := 4)) da_nil))))))
    (ds_cons (ds_if (dt_cmp (fun _ _ _ _ h => bl_eq h) (op_eqV rfl hu) (de_var (i := 3)) de_int) (ds_one (ds_ret (de_new (dl_lst (da_cons (de_tup (da_cons de_str (da_cons (de_var (i := 1)) (da_cons (de_var (i := 2)) (da_cons de_int (da_cons (de_var (i := 4)) (da_cons de_bl (da_cons de_int da_nil)))))))) da_nil))))) ds_nil)
    (ds_cons (ds_expr (de_meth (L := L0 K cA) (nf := 32) (mt := G0.mt 20) (takes_of rfl rfl rfl rfl) (mth_keep T I) hr0 nm_keep (de_var (i := 0)) (da_cons (de_var (i := 1)) (da_cons (de_var (i := 2)) (da_cons (de_var (i := 3)) (da_cons (de_var (i := 4)) da_nil))))))
    (ds_one (ds_ret (de_meth0 (L := L0 K cA) (nf := 32) (mt := G0.mt 30) (takes_of rfl rfl rfl rfl) (mth_pump T I) hr0 nm_pump (de_var (i := 0))))))))
theorem sc_Giver_place_of : FnScope N_Giver_place_of ps_Giver_place_of (defScope s_Giver_place_of) := ⟨rfl, rfl, rfl, by decide +kernel, rfl, by decide +kernel, by decide +kernel⟩
theorem ok_Giver_place_of {k : Nat} (T : Txt K mg fA fD cA) (I : Oks P w K mg base fA cA fD k) : FnOk P w K mg base (L2.CX P w) (2 * (k + 1)) (fA 59) (fD 59) ps_Giver_place_of (spC (L0 K cA) (run (k + 1) 59)) := by
  refine fn_ok (k := 2 * k + 1) (n := 3) (sl := 5) (sm := PG.B_Giver_place_of G0 (run k)) T.F_Giver_place_of sc_Giver_place_of rfl rfl fun cdv A outer s H E hr => ?_
  have hr0 := hr.mono (show 2 * k ≤ 2 * k + 1 by omega)
  have hu := hr.units
  have hu5 := units65 hr
  have nd := sc_Giver_place_of.nd
  exact (ds_cons (ds_setC (i := 3) (.inl rfl) rfl nd (blkOk_by (N := N_Giver_place_of) (sc := defScope s_Giver_place_of) (own := [("k", 4)]) (by decide +kernel)) (di_rng1 T.z_range (de_blt (cr_lenV rfl) T.z_len (by decide +kernel) (da_cons (de_fld (L := L0 K cA) (k := 11) rfl rfl fj_11 (okf_flying T) (de_var (i := 0))) da_nil))) (fun _ _ _ _ _ => (dg_name (i := 4) nd)) (fun _ _ _ _ _ => (dts_one (dt_cmp (fun _ _ _ _ h => bl_eq h) (op_eqV rfl hu) (de_sl rfl (de_ix (op_ixV rfl) (de_fld (L := L0 K cA) (k := 11) rfl rfl fj_11 (okf_flying T) (de_var (i := 0))) (de_var (i := 4))) dp_none (dp_some de_int)) (de_tup (da_cons (de_var (i := 1)) (da_cons (de_var (i := 2)) da_nil)))))) (fun _ _ _ _ _ => (de_var (i := 4))))
    (ds_one (ds_ret (de_if (dt_truth rfl (de_var (i := 3))) (de_ix (op_ixV rfl) (de_var (i := 3)) de_int) de_non))))
theorem sc_Giver_took : FnScope N_Giver_took ps_Giver_took (defScope s_Giver_took) := ⟨rfl, rfl, rfl, by decide +kernel, rfl, by decide +kernel, by decide +kernel⟩
theorem ok_Giver_took {k : Nat} (T : Txt K mg fA fD cA) (I : Oks P w K mg base fA cA fD k) : FnOk P w K mg base (L2.CX P w) (2 * (k + 1)) (fA 60) (fD 60) ps_Giver_took (spC (L0 K cA) (run (k + 1) 60)) := by
  refine fn_ok (k := 2 * k + 1) (n := 2) (sl := 5) (sm := PG.B_Giver_took G0 (run k)) T.F_Giver_took sc_Giver_took rfl rfl fun cdv A outer s H E hr => ?_
  have hr0 := hr.mono (show 2 * k ≤ 2 * k + 1 by omega)
  have hu := hr.units
  have hu5 := units65 hr
  have nd := sc_Giver_took.nd
  exact (ds_cons (ds_tgt (de_var (i := 1)) (dg_tup (is := [3, 4]) rfl rfl (pgs_cons (pg_name (i := 3) nd rfl (by first | exact Or.inl rfl | exact Or.inr rfl)) (pgs_cons (pg_name (i := 4) nd rfl (by first | exact Or.inl rfl | exact Or.inr rfl)) pgs_nil))))
    (ds_cons (ds_if (dt_cmp (fun _ _ _ _ h => bl_eq h) (op_eqV rfl hu) (de_var (i := 3)) de_str) (ds_cons (ds_set (i := 2) nd (de_meth (L := L0 K cA) (nf := 32) (mt := G0.mt 28) (takes_of rfl rfl rfl rfl) (mth_place_of T I) hr0 nm_place_of (de_var (i := 0)) (da_cons (de_var (i := 4)) (da_cons de_int da_nil))))
    (ds_cons (ds_if (dt_cmp (fun _ _ _ _ h => bl_isNot h) (op_isNotV) (de_var (i := 2)) de_non) (ds_one (ds_setL (de_tup (da_cons (de_var (i := 4)) (da_cons de_int (da_cons de_non da_nil)))) (de_fld (L := L0 K cA) (k := 11) rfl rfl fj_11 (okf_flying T) (de_var (i := 0))) (de_var (i := 2)))) ds_nil)
    (ds_one (ds_ret (de_if (PW.pt (dw_or (dt_cmp (fun _ _ _ _ h => bl_isNot h) (op_isNotV) (de_var (i := 2)) de_non) (dw_one (dt_cmp (fun _ _ _ _ h => bl_isNot h) (op_isNotV) (de_meth (L := L0 K cA) (nf := 32) (mt := G0.mt 28) (takes_of rfl rfl rfl rfl) (mth_place_of T I) hr0 nm_place_of (de_var (i := 0)) (da_cons (de_var (i := 4)) (da_cons de_int da_nil))) de_non)))) (de_new (dl_lst (da_cons (de_tup (da_cons de_str (da_cons (de_var (i := 4)) da_nil))) da_nil))) (de_new (dl_lst da_nil))))))) ds_nil)
    (ds_cons (ds_set (i := 2) nd (de_meth (L := L0 K cA) (nf := 32) (mt := G0.mt 28) (takes_of rfl rfl rfl rfl) (mth_place_of T I) hr0 nm_place_of (de_var (i := 0)) (da_cons (de_var (i := 4)) (da_cons (de_if (dt_cmp (fun _ _ _ _ h => bl_eq h) (op_eqV rfl hu) (de_var (i := 3)) de_str) de_int de_int) da_nil))))
    (ds_cons (ds_if (dt_cmp (fun _ _ _ _ h => bl_is h) (op_isV) (de_var (i := 2)) de_non) (ds_one (ds_ret (de_new (dl_lst da_nil)))) ds_nil)
    (ds_cons (ds_fld (L := L0 K cA) (k := 11) rfl fj_11 (okf_flying T) (de_mut (dl_cat rfl (de_new (dl_sl rfl (de_fld (L := L0 K cA) (k := 11) rfl rfl fj_11 (okf_flying T) (de_var (i := 0))) dp_none (dp_some (de_var (i := 2))))) (de_new (dl_sl rfl (de_fld (L := L0 K cA) (k := 11) rfl rfl fj_11 (okf_flying T) (de_var (i := 0))) (dp_some (de_bin (op_addV rfl) (de_var (i := 2)) de_int)) dp_none)))) (de_var (i := 0)))
    (ds_one (ds_ret (de_meth0 (L := L0 K cA) (nf := 32) (mt := G0.mt 30) (takes_of rfl rfl rfl rfl) (mth_pump T I) hr0 nm_pump (de_var (i := 0))))))))))
theorem sc_Giver_again : FnScope N_Giver_again ps_Giver_again (defScope s_Giver_again) := ⟨rfl, rfl, rfl, by decide +kernel, rfl, by decide +kernel, by decide +kernel⟩
theorem ok_Giver_again {k : Nat} (T : Txt K mg fA fD cA) (I : Oks P w K mg base fA cA fD k) : FnOk P w K mg base (L2.CX P w) (2 * (k + 1)) (fA 61) (fD 61) ps_Giver_again (spC (L0 K cA) (run (k + 1) 61)) := by
  refine fn_ok (k := 2 * k + 1) (n := 1) (sl := 5) (sm := PG.B_Giver_again G0 (run k)) T.F_Giver_again sc_Giver_again rfl rfl fun cdv A outer s H E hr => ?_
  have hr0 := hr.mono (show 2 * k ≤ 2 * k + 1 by omega)
  have hu := hr.units
  have hu5 := units65 hr
  have nd := sc_Giver_again.nd
  exact (ds_cons (ds_set (i := 1) nd (de_mut (dl_lst da_nil)))
    (ds_cons (ds_for (passes_of rfl) rfl (di_val rfl (de_fld (L := L0 K cA) (k := 11) rfl rfl fj_11 (okf_flying T) (de_var (i := 0)))) (dg_tup (is := [2, 3, 4]) rfl rfl (pgs_cons (pg_name (i := 2) nd rfl (by first | exact Or.inl rfl | exact Or.inr rfl)) (pgs_cons (pg_name (i := 3) nd rfl (by first | exact Or.inl rfl | exact Or.inr rfl)) (pgs_cons (pg_name (i := 4) nd rfl (by first | exact Or.inl rfl | exact Or.inr rfl)) pgs_nil)))) (ds_one (ds_if (dt_cmp (fun _ _ _ _ h => bl_is h) (op_isV) (de_var (i := 4)) de_non) (ds_one (ds_expr (de_app rfl (de_var (i := 1)) (de_tup (da_cons de_str (da_cons (de_var (i := 2)) da_nil)))))) (ds_one (ds_expr (de_app rfl (de_var (i := 1)) (de_bin (op_addV rfl) (de_bin (op_addV rfl) (de_tup (da_cons de_str da_nil)) (de_var (i := 4))) (de_tup (da_cons de_bl (da_cons (de_var (i := 2)) da_nil))))))))))
    (ds_one (ds_ret (de_mut (dl_cat rfl (de_var (i := 1)) (de_meth0 (L := L0 K cA) (nf := 32) (mt := G0.mt 30) (takes_of rfl rfl rfl rfl) (mth_pump T I) hr0 nm_pump (de_var (i := 0)))))))))
theorem sc_Giver_many : FnScope N_Giver_many ps_Giver_many (defScope s_Giver_many) := ⟨rfl, rfl, rfl, by decide +kernel, rfl, by decide +kernel, by decide +kernel⟩
theorem ok_Giver_many {k : Nat} (T : Txt K mg fA fD cA) (I : Oks P w K mg base fA cA fD k) : FnOk P w K mg base (L2.CX P w) (2 * (k + 1)) (fA 62) (fD 62) ps_Giver_many (spC (L0 K cA) (run (k + 1) 62)) := by
  refine fn_ok (k := 2 * k + 1) (n := 1) (sl := 1) (sm := PG.B_Giver_many G0 (run k)) T.F_Giver_many sc_Giver_many rfl rfl fun cdv A outer s H E hr => ?_
  have hr0 := hr.mono (show 2 * k ≤ 2 * k + 1 by omega)
  have hu := hr.units
  have hu5 := units65 hr
  have nd := sc_Giver_many.nd
  exact (ds_one (ds_ret (de_tup (da_cons (de_blt (cr_lenV rfl) T.z_len (by decide +kernel) (da_cons (de_fld (L := L0 K cA) (k := 11) rfl rfl fj_11 (okf_flying T) (de_var (i := 0))) da_nil)) (da_cons (de_blt (cr_lenV rfl) T.z_len (by decide +kernel) (da_cons (de_fld (L := L0 K cA) (k := 10) rfl rfl fj_10 (okf_waiting T) (de_var (i := 0))) da_nil)) da_nil)))))
theorem sc_Taker___init__ : FnScope N_Taker___init__ ps_Taker___init__ (defScope s_Taker___init__) := ⟨rfl, rfl, rfl, by decide +kernel, rfl, by decide +kernel, by decide +kernel⟩
theorem ok_Taker___init__ {k : Nat} (T : Txt K mg fA fD cA) (I : Oks P w K mg base fA cA fD k) : FnOk P w K mg base (L2.CX P w) (2 * (k + 1)) (fA 63) (fD 63) ps_Taker___init__ (spC (L0 K cA) (run (k + 1) 63)) := by
  refine fn_ok (k := 2 * k + 1) (n := 1) (sl := 1) (sm := PG.B_Taker___init__ G0 (run k)) T.F_Taker___init__ sc_Taker___init__ rfl rfl fun cdv A outer s H E hr => ?_
  have hr0 := hr.mono (show 2 * k ≤ 2 * k + 1 by omega)
  have hu := hr.units
  have hu5 := units65 hr
  have nd := sc_Taker___init__.nd
  exact (ds_one (ds_fld (L := L0 K cA) (k := 12) rfl fj_12 (okf_numbers T) (de_mut (dl_lst da_nil)) (de_var (i := 0))))
theorem sc_Taker_took : FnScope N_Taker_took ps_Taker_took (defScope s_Taker_took) := ⟨rfl, rfl, rfl, by decide +kernel, rfl, by decide +kernel, by decide +kernel⟩
theorem ok_Taker_took {k : Nat} (T : Txt K mg fA fD cA) (I : Oks P w K mg base fA cA fD k) : FnOk P w K mg base (L2.CX P w) (2 * (k + 1)) (fA 64) (fD 64) ps_Taker_took (spC (L0 K cA) (run (k + 1) 64)) := by
  refine fn_ok (k := 2 * k + 1) (n := 2) (sl := 4) (sm := PG.B_Taker_took G0 (run k)) T.F_Taker_took sc_Taker_took rfl rfl fun cdv A outer s H E hr => ?_
  have hr0 := hr.mono (show 2 * k ≤ 2 * k + 1 by omega)
  have hu := hr.units
  have hu5 := units65 hr
  have nd := sc_Taker_took.nd
  exact (ds_cons (ds_if (dt_cmp (fun _ _ _ _ h => bl_eq h) (op_eqV rfl hu) (de_ix (op_ixV rfl) (de_var (i := 1)) de_int) de_str) (ds_cons (ds_fld (L := L0 K cA) (k := 12) rfl fj_12 (okf_numbers T) (de_mut (dl_comp rfl nd (blkOk_by (N := N_Taker_took) (sc := defScope s_Taker_took) (own := [("number", 3)]) (by decide +kernel)) (di_val rfl (de_fld (L := L0 K cA) (k := 12) rfl rfl fj_12 (okf_numbers T) (de_var (i := 0)))) (fun _ _ _ _ _ => (dg_name (i := 3) nd)) (fun _ _ _ _ _ => (dts_one (dt_cmp (fun _ _ _ _ h => bl_ne h) (op_neV rfl hu) (de_var (i := 3)) (de_ix (op_ixV rfl) (de_var (i := 1)) de_int)))) (fun _ _ _ _ _ => (de_var (i := 3))))) (de_var (i := 0)))
    (ds_one (ds_ret (de_tup (da_cons (de_new (dl_lst (da_cons (de_tup (da_cons de_str (da_cons (de_ix (op_ixV rfl) (de_var (i := 1)) de_int) da_nil))) da_nil))) (da_cons (de_new (dl_lst da_nil)) da_nil)))))) ds_nil)
    (ds_cons (ds_set (i := 2) nd (de_sl rfl (de_var (i := 1)) (dp_some de_int) (dp_some de_int)))
    (ds_cons (ds_if (dt_cmp (fun _ _ _ _ h => bl_eq h) (op_eqV rfl hu) (de_ix (op_ixV rfl) (de_var (i := 1)) de_int) de_int) (ds_one (ds_ret (de_tup (da_cons (de_new (dl_lst da_nil)) (da_cons (de_new (dl_lst (da_cons (de_var (i := 2)) da_nil))) da_nil))))) ds_nil)
    (ds_cons (ds_if (dt_cmp (fun _ _ _ _ h => bl_eq h) (op_eqV rfl hu) (de_ix (op_ixV rfl) (de_var (i := 1)) de_int) de_int) (ds_one (ds_ret (de_tup (da_cons (de_new (dl_lst (da_cons (de_tup (da_cons de_str (da_cons (de_ix (op_ixV rfl) (de_var (i := 1)) de_int) da_nil))) da_nil))) (da_cons (de_new (dl_lst (da_cons (de_var (i := 2)) da_nil))) da_nil))))) ds_nil)
    (ds_cons (ds_if (dt_cmp (fun _ _ _ _ h => bl_in h) (op_inV rfl hu5) (de_ix (op_ixV rfl) (de_var (i := 1)) de_int) (de_fld (L := L0 K cA) (k := 12) rfl rfl fj_12 (okf_numbers T) (de_var (i := 0)))) (ds_one (ds_ret (de_tup (da_cons (de_new (dl_lst (da_cons (de_tup (da_cons de_str (da_cons (de_ix (op_ixV rfl) (de_var (i := 1)) de_int) da_nil))) da_nil))) (da_cons (de_new (dl_lst da_nil)) da_nil))))) ds_nil)
    (ds_cons (ds_expr (de_app rfl (de_fld (L := L0 K cA) (k := 12) rfl rfl fj_12 (okf_numbers T) (de_var (i := 0))) (de_ix (op_ixV rfl) (de_var (i := 1)) de_int)))
    (ds_one (ds_ret (de_tup (da_cons (de_new (dl_lst (da_cons (de_tup (da_cons de_str (da_cons (de_ix (op_ixV rfl) (de_var (i := 1)) de_int) da_nil))) da_nil))) (da_cons (de_new (dl_lst (da_cons (de_var (i := 2)) da_nil))) da_nil)))))))))))
theorem sc__law_cell : FnScope N__law_cell ps__law_cell (defScope s__law_cell) := ⟨rfl, rfl, rfl, by decide +kernel, rfl, by decide +kernel, by decide +kernel⟩
theorem ok__law_cell {k : Nat} (T : Txt K mg fA fD cA) (I : Oks P w K mg base fA cA fD k) : FnOk P w K mg base (L2.CX P w) (2 * (k + 1)) (fA 200) (fD 200) ps__law_cell (spC (L0 K cA) (run (k + 1) 200)) := by
  refine fn_ok (k := 2 * k + 1) (n := 2) (sl := 2) (sm := B__law_cell (run k)) T.F__law_cell sc__law_cell rfl rfl fun cdv A outer s H E hr => ?_
  have hr0 := hr.mono (show 2 * k ≤ 2 * k + 1 by omega)
  have hu := hr.units
  have hu5 := units65 hr
  have nd := sc__law_cell.nd
  exact (ds_cons (ds_if (dt_truth rfl (de_var (i := 0))) (ds_one (ds_ret (de_ix (op_ixV rfl) (de_var (i := 0)) (de_bin (op_modV) (de_var (i := 1)) (de_blt (cr_lenV rfl) T.z_len (by decide +kernel) (da_cons (de_var (i := 0)) da_nil)))))) ds_nil)
    (ds_one (ds_ret de_int)))
theorem sc__law_mix : FnScope N__law_mix ps__law_mix (defScope s__law_mix) := ⟨rfl, rfl, rfl, by decide +kernel, rfl, by decide +kernel, by decide +kernel⟩
theorem ok__law_mix {k : Nat} (T : Txt K mg fA fD cA) (I : Oks P w K mg base fA cA fD k) : FnOk P w K mg base (L2.CX P w) (2 * (k + 1)) (fA 201) (fD 201) ps__law_mix (spC (L0 K cA) (run (k + 1) 201)) := by
  refine fn_ok (k := 2 * k + 1) (n := 2) (sl := 3) (sm := B__law_mix (run k)) T.F__law_mix sc__law_mix rfl rfl fun cdv A outer s H E hr => ?_
  have hr0 := hr.mono (show 2 * k ≤ 2 * k + 1 by omega)
  have hu := hr.units
  have hu5 := units65 hr
  have nd := sc__law_mix.nd
  exact (ds_cons (ds_set (i := 2) nd (de_bin (op_modV) (de_bin (op_addV rfl) (de_call (takes_of rfl rfl rfl rfl) I.o__law_cell hr0 T.m__law_cell T.k__law_cell T.b__law_cell (da_cons (de_var (i := 0)) (da_cons (de_var (i := 1)) da_nil))) (de_bin (op_mulV) de_int (de_bin (op_addV rfl) (de_var (i := 1)) de_int))) de_int))
    (ds_cons (ds_set (i := 2) nd (de_bin (op_modV) (de_bin (op_powV) (de_var (i := 2)) de_int) de_int))
    (ds_one (ds_ret (de_bin (op_modV) (de_bin (op_addV rfl) (de_bin (op_mulV) (de_bin (op_divV) (de_var (i := 2)) de_int) de_int) (de_var (i := 2))) de_int)))))
theorem sc__law_draw : FnScope N__law_draw ps__law_draw (defScope s__law_draw) := ⟨rfl, rfl, rfl, by decide +kernel, rfl, by decide +kernel, by decide +kernel⟩
theorem ok__law_draw {k : Nat} (T : Txt K mg fA fD cA) (I : Oks P w K mg base fA cA fD k) : FnOk P w K mg base (L2.CX P w) (2 * (k + 1)) (fA 202) (fD 202) ps__law_draw (spC (L0 K cA) (run (k + 1) 202)) := by
  refine fn_ok (k := 2 * k + 1) (n := 3) (sl := 3) (sm := B__law_draw (run k)) T.F__law_draw sc__law_draw rfl rfl fun cdv A outer s H E hr => ?_
  have hr0 := hr.mono (show 2 * k ≤ 2 * k + 1 by omega)
  have hu := hr.units
  have hu5 := units65 hr
  have nd := sc__law_draw.nd
  exact (ds_cons (ds_expr (de_app rfl (de_var (i := 1)) de_int))
    (ds_one (ds_ret (de_bin (op_modV) (de_bin (op_divV) (de_call (takes_of rfl rfl rfl rfl) I.o__law_mix hr0 T.m__law_mix T.k__law_mix T.b__law_mix (da_cons (de_var (i := 0)) (da_cons (de_blt (cr_lenV rfl) T.z_len (by decide +kernel) (da_cons (de_var (i := 1)) da_nil)) da_nil))) de_int) (de_var (i := 2))))))
theorem sc__law_carried : FnScope N__law_carried ps__law_carried (defScope s__law_carried) := ⟨rfl, rfl, rfl, by decide +kernel, rfl, by decide +kernel, by decide +kernel⟩
theorem ok__law_carried {k : Nat} (T : Txt K mg fA fD cA) (I : Oks P w K mg base fA cA fD k) : FnOk P w K mg base (L2.CX P w) (2 * (k + 1)) (fA 203) (fD 203) ps__law_carried (spC (L0 K cA) (run (k + 1) 203)) := by
  refine fn_ok (k := 2 * k + 1) (n := 5) (sl := 7) (sm := B__law_carried (run k)) T.F__law_carried sc__law_carried rfl rfl fun cdv A outer s H E hr => ?_
  have hr0 := hr.mono (show 2 * k ≤ 2 * k + 1 by omega)
  have hu := hr.units
  have hu5 := units65 hr
  have nd := sc__law_carried.nd
  exact (ds_one (ds_if (dt_truth rfl (de_var (i := 2))) (ds_cons (ds_tgt (de_meth (L := L0 K cA) (nf := 32) (mt := G0.mt 38) (takes_of rfl rfl rfl rfl) (mth_took T I) hr0 nm_took (de_var (i := 1)) (da_cons (de_popI rfl (de_var (i := 2)) de_int) da_nil)) (dg_tup (is := [5, 6]) rfl rfl (pgs_cons (pg_name (i := 5) nd rfl (by first | exact Or.inl rfl | exact Or.inr rfl)) (pgs_cons (pg_name (i := 6) nd rfl (by first | exact Or.inl rfl | exact Or.inr rfl)) pgs_nil))))
    (ds_cons (ds_expr (de_ext rfl (de_var (i := 3)) (de_var (i := 5))))
    (ds_one (ds_expr (de_ext rfl (de_var (i := 4)) (de_var (i := 6))))))) (ds_one (ds_if (dt_truth rfl (de_var (i := 3))) (ds_one (ds_expr (de_ext rfl (de_var (i := 2)) (de_meth (L := L0 K cA) (nf := 32) (mt := G0.mt 38) (takes_of rfl rfl rfl rfl) (mth_took T I) hr0 nm_took (de_var (i := 0)) (da_cons (de_popI rfl (de_var (i := 3)) de_int) da_nil))))) ds_nil))))
theorem sc__law_good : FnScope N__law_good ps__law_good (defScope s__law_good) := ⟨rfl, rfl, rfl, by decide +kernel, rfl, by decide +kernel, by decide +kernel⟩
theorem ok__law_good {k : Nat} (T : Txt K mg fA fD cA) (I : Oks P w K mg base fA cA fD k) : FnOk P w K mg base (L2.CX P w) (2 * (k + 1)) (fA 204) (fD 204) ps__law_good (spC (L0 K cA) (run (k + 1) 204)) := by
  refine fn_ok (k := 2 * k + 1) (n := 2) (sl := 9) (sm := B__law_good (run k)) T.F__law_good sc__law_good rfl rfl fun cdv A outer s H E hr => ?_
  have hr0 := hr.mono (show 2 * k ≤ 2 * k + 1 by omega)
  have hu := hr.units
  have hu5 := units65 hr
  have nd := sc__law_good.nd
  exact (ds_cons (ds_for (passes_of rfl) rfl (di_rng1 T.z_range de_int) (dg_name (i := 2) nd) (ds_cons (ds_setC (i := 3) (.inl rfl) rfl nd (blkOk_by (N := N__law_good) (sc := defScope s__law_good) (own := [("_law_one", 7)]) (by decide +kernel)) (di_val rfl (de_var (i := 0))) (fun _ _ _ _ _ => (dg_name (i := 7) nd)) (fun _ _ _ _ _ => (dts_one (dt_cmp (fun _ _ _ _ h => bl_eq h) (op_eqV rfl hu) (de_ix (op_ixV rfl) (de_var (i := 7)) de_int) (de_var (i := 2))))) (fun _ _ _ _ _ => (de_var (i := 7))))
    (ds_cons (ds_set (i := 4) nd (de_new (dl_comp rfl nd (blkOk_by (N := N__law_good) (sc := defScope s__law_good) (own := [("_law_one", 7)]) (by decide +kernel)) (di_val rfl (de_var (i := 1))) (fun _ _ _ _ _ => (dg_name (i := 7) nd)) (fun _ _ _ _ _ => (dts_one (dt_cmp (fun _ _ _ _ h => bl_eq h) (op_eqV rfl hu) (de_ix (op_ixV rfl) (de_var (i := 7)) de_int) (de_var (i := 2))))) (fun _ _ _ _ _ => (de_var (i := 7))))))
    (ds_cons (ds_setC (i := 5) (.inl rfl) rfl nd (blkOk_by (N := N__law_good) (sc := defScope s__law_good) (own := [("_law_k", 8)]) (by decide +kernel)) (di_rng1 T.z_range (de_blt (cr_lenV rfl) T.z_len (by decide +kernel) (da_cons (de_var (i := 4)) da_nil))) (fun _ _ _ _ _ => (dg_name (i := 8) nd)) (fun _ _ _ _ _ => (dts_one (dt_cmp (fun _ _ _ _ h => bl_notIn h) (op_notInV rfl hu5) (de_ix (op_ixV rfl) (de_var (i := 4)) (de_var (i := 8))) (de_new (dl_sl rfl (de_var (i := 4)) dp_none (dp_some (de_var (i := 8)))))))) (fun _ _ _ _ _ => (de_ix (op_ixV rfl) (de_var (i := 4)) (de_var (i := 8)))))
    (ds_cons (ds_if (PW.pt (dw_or (PW.pt (dw_and (dt_cmp (fun _ _ _ _ h => bl_eq h) (op_eqV rfl hu) (de_var (i := 2)) de_int) (dw_one (dt_cmp (fun _ _ _ _ h => bl_ne h) (op_neV rfl hu) (de_var (i := 4)) (de_var (i := 3)))))) (dw_one (PW.pt (dw_and (dt_cmp (fun _ _ _ _ h => bl_eq h) (op_eqV rfl hu) (de_var (i := 2)) de_int) (dw_one (dt_cmp (fun _ _ _ _ h => bl_ne h) (op_neV rfl hu) (de_var (i := 5)) (de_var (i := 3))))))))) (ds_one (ds_ret de_bl)) ds_nil)
    (ds_cons (ds_setC (i := 6) (.inl rfl) rfl nd (blkOk_by (N := N__law_good) (sc := defScope s__law_good) (own := [("_law_one", 7)]) (by decide +kernel)) (di_val rfl (de_var (i := 3))) (fun _ _ _ _ _ => (dg_name (i := 7) nd)) (fun _ _ _ _ _ => (dts_one (dt_cmp (fun _ _ _ _ h => bl_in h) (op_inV rfl hu5) (de_var (i := 7)) (de_var (i := 4))))) (fun _ _ _ _ _ => (de_var (i := 7))))
    (ds_one (ds_if (PW.pt (dw_and (dt_cmp (fun _ _ _ _ h => bl_eq h) (op_eqV rfl hu) (de_var (i := 2)) de_int) (dw_one (PW.pt (dw_or (dt_cmp (fun _ _ _ _ h => bl_ne h) (op_neV rfl hu) (de_var (i := 4)) (de_var (i := 5))) (dw_one (dt_cmp (fun _ _ _ _ h => bl_ne h) (op_neV rfl hu) (de_var (i := 4)) (de_var (i := 6))))))))) (ds_one (ds_ret de_bl)) ds_nil))))))))
    (ds_one (ds_ret (de_cmp (op_eqV rfl hu) (de_blt (cr_lenV rfl) T.z_len (by decide +kernel) (da_cons (de_var (i := 1)) da_nil)) (de_blt (cr_lenV rfl) T.z_len (by decide +kernel) (da_cons (de_new (dl_comp rfl nd (blkOk_by (N := N__law_good) (sc := defScope s__law_good) (own := [("_law_one", 7)]) (by decide +kernel)) (di_val rfl (de_var (i := 1))) (fun _ _ _ _ _ => (dg_name (i := 7) nd)) (fun _ _ _ _ _ => (dts_one (dt_cmp (fun _ _ _ _ h => bl_in h) (op_inV rfl hu5) (de_var (i := 7)) (de_var (i := 0))))) (fun _ _ _ _ _ => (de_var (i := 7))))) da_nil))))))
theorem sc_law : FnScope N_law ps_law (defScope s_law) := ⟨rfl, rfl, rfl, by decide +kernel, rfl, by decide +kernel, by decide +kernel⟩
theorem ok_law {k : Nat} (T : Txt K mg fA fD cA) (I : Oks P w K mg base fA cA fD k) : FnOk P w K mg base (L2.CX P w) (2 * (k + 1)) (fA 205) (fD 205) ps_law (spC (L0 K cA) (run (k + 1) 205)) := by
  refine fn_ok (k := 2 * k + 1) (n := 1) (sl := 11) (sm := B_law (run k)) T.F_law sc_law rfl rfl fun cdv A outer s H E hr => ?_
  have hr0 := hr.mono (show 2 * k ≤ 2 * k + 1 by omega)
  have hu := hr.units
  have hu5 := units65 hr
  have nd := sc_law.nd
  exact (ds_cons (ds_set (i := 1) nd (de_mut (dl_lst da_nil)))
    (ds_cons (ds_set (i := 2) nd (de_bin (op_addV rfl) de_int (de_call (takes_of rfl rfl rfl rfl) I.o__law_draw hr0 T.m__law_draw T.k__law_draw T.b__law_draw (da_cons (de_var (i := 0)) (da_cons (de_var (i := 1)) (da_cons de_int da_nil))))))
    (ds_cons (ds_set (i := 3) nd (de_make (L := L0 K cA) (cl := 14) (takes_of rfl rfl rfl rfl) T.I_Giver I.o_Giver___init__ hr T.x_Giver T.b_Giver___init__ (da_cons (de_var (i := 2)) (da_cons (de_bin (op_addV rfl) (de_var (i := 2)) (de_call (takes_of rfl rfl rfl rfl) I.o__law_draw hr0 T.m__law_draw T.k__law_draw T.b__law_draw (da_cons (de_var (i := 0)) (da_cons (de_var (i := 1)) (da_cons de_int da_nil))))) da_nil))))
    (ds_cons (ds_set (i := 4) nd (de_make0 (L := L0 K cA) (cl := 15) (takes_of rfl rfl rfl rfl) T.I_Taker I.o_Taker___init__ hr T.x_Taker T.b_Taker___init__))
    (ds_cons (ds_set (i := 5) nd (de_mut (dl_lst da_nil)))
    (ds_cons (ds_set (i := 6) nd (de_mut (dl_lst da_nil)))
    (ds_cons (ds_set (i := 7) nd (de_mut (dl_lst da_nil)))
    (ds_cons (ds_set (i := 8) nd (de_mut (dl_lst da_nil)))
    (ds_cons (ds_for (passes_of rfl) rfl (di_rng1 T.z_range (de_call (takes_of rfl rfl rfl rfl) I.o__law_draw hr0 T.m__law_draw T.k__law_draw T.b__law_draw (da_cons (de_var (i := 0)) (da_cons (de_var (i := 1)) (da_cons de_int da_nil))))) (dg_name (i := 9) nd) (ds_cons (ds_set (i := 10) nd (de_call (takes_of rfl rfl rfl rfl) I.o__law_draw hr0 T.m__law_draw T.k__law_draw T.b__law_draw (da_cons (de_var (i := 0)) (da_cons (de_var (i := 1)) (da_cons de_int da_nil)))))
    (ds_cons (ds_if (PW.pt (dw_and (dt_cmp (fun _ _ _ _ h => bl_lt h) (op_ltV) (de_var (i := 10)) de_int) (dw_one (dt_cmp (fun _ _ _ _ h => bl_lt h) (op_ltV) (de_blt (cr_lenV rfl) T.z_len (by decide +kernel) (da_cons (de_var (i := 7)) da_nil)) de_int)))) (ds_cons (ds_expr (de_app rfl (de_var (i := 7)) (de_tup (da_cons de_str (da_cons (de_bin (op_addV rfl) de_str (de_ty (cr_strV) T.z_str (by decide +kernel) (da_cons (de_blt (cr_lenV rfl) T.z_len (by decide +kernel) (da_cons (de_var (i := 7)) da_nil)) da_nil))) (da_cons (de_call (takes_of rfl rfl rfl rfl) I.o__law_draw hr0 T.m__law_draw T.k__law_draw T.b__law_draw (da_cons (de_var (i := 0)) (da_cons (de_var (i := 1)) (da_cons de_int da_nil)))) (da_cons (de_cmp (op_eqV rfl hu) (de_var (i := 10)) de_int) da_nil)))))))
    (ds_one (ds_expr (de_ext rfl (de_var (i := 5)) (de_meth (L := L0 K cA) (nf := 32) (mt := G0.mt 32) (takes_of rfl rfl rfl rfl) (mth_say T I) hr0 nm_say (de_var (i := 3)) (da_cons (de_ix (op_ixV rfl) (de_ix (op_ixV rfl) (de_var (i := 7)) (de_neg de_int)) de_int) (da_cons (de_ix (op_ixV rfl) (de_ix (op_ixV rfl) (de_var (i := 7)) (de_neg de_int)) de_int) (da_cons (de_ix (op_ixV rfl) (de_ix (op_ixV rfl) (de_var (i := 7)) (de_neg de_int)) de_int) (da_cons (de_ix (op_ixV rfl) (de_ix (op_ixV rfl) (de_var (i := 7)) (de_neg de_int)) de_int) da_nil))))))))) (ds_one (ds_if (dt_cmp (fun _ _ _ _ h => bl_lt h) (op_ltV) (de_var (i := 10)) de_int) (ds_one (ds_expr (de_call (takes_of rfl rfl rfl rfl) I.o__law_carried hr0 T.m__law_carried T.k__law_carried T.b__law_carried (da_cons (de_var (i := 3)) (da_cons (de_var (i := 4)) (da_cons (de_var (i := 5)) (da_cons (de_var (i := 6)) (da_cons (de_var (i := 8)) da_nil)))))))) (ds_one (ds_if (PW.pt (dw_and (dt_cmp (fun _ _ _ _ h => bl_lt h) (op_ltV) (de_var (i := 10)) de_int) (dw_one (dt_truth rfl (de_var (i := 6)))))) (ds_one (ds_expr (de_ext rfl (de_var (i := 5)) (de_meth (L := L0 K cA) (nf := 32) (mt := G0.mt 38) (takes_of rfl rfl rfl rfl) (mth_took T I) hr0 nm_took (de_var (i := 3)) (da_cons (de_popI rfl (de_var (i := 6)) de_int) da_nil))))) (ds_one (ds_if (dt_cmp (fun _ _ _ _ h => bl_eq h) (op_eqV rfl hu) (de_var (i := 10)) de_int) (ds_cons (ds_set (i := 5) nd (de_mut (dl_lst da_nil)))
    (ds_cons (ds_set (i := 6) nd (de_mut (dl_lst da_nil)))
    (ds_one (ds_expr (de_ext rfl (de_var (i := 5)) (de_meth0 (L := L0 K cA) (nf := 32) (mt := G0.mt 0) (takes_of rfl rfl rfl rfl) (mth_again T I) hr0 nm_again (de_var (i := 3)))))))) ds_nil)))))))
    (ds_one (ds_if (dt_cmp (fun _ _ _ _ h => bl_gt h) (op_gtV) (de_ix (op_ixV rfl) (de_meth0 (L := L0 K cA) (nf := 32) (mt := G0.mt 24) (takes_of rfl rfl rfl rfl) (mth_many T I) hr0 nm_many (de_var (i := 3))) de_int) (de_var (i := 2))) (ds_one (ds_ret de_bl)) ds_nil)))))
    (ds_cons (ds_set (i := 5) nd (de_meth0 (L := L0 K cA) (nf := 32) (mt := G0.mt 0) (takes_of rfl rfl rfl rfl) (mth_again T I) hr0 nm_again (de_var (i := 3))))
    (ds_cons (ds_set (i := 6) nd (de_mut (dl_lst da_nil)))
    (ds_cons (ds_for (passes_of rfl) rfl (di_rng1 T.z_range de_int) (dg_name (i := 9) nd) (ds_one (ds_expr (de_call (takes_of rfl rfl rfl rfl) I.o__law_carried hr0 T.m__law_carried T.k__law_carried T.b__law_carried (da_cons (de_var (i := 3)) (da_cons (de_var (i := 4)) (da_cons (de_var (i := 5)) (da_cons (de_var (i := 6)) (da_cons (de_var (i := 8)) da_nil)))))))))
    (ds_one (ds_ret (de_and rfl (de_cmp (op_eqV rfl hu) (de_new (dl_cat rfl (de_var (i := 5)) (de_var (i := 6)))) (de_new (dl_lst da_nil))) (de_and rfl (de_cmp (op_eqV rfl hu) (de_meth0 (L := L0 K cA) (nf := 32) (mt := G0.mt 24) (takes_of rfl rfl rfl rfl) (mth_many T I) hr0 nm_many (de_var (i := 3))) (de_tup (da_cons de_int (da_cons de_int da_nil)))) (de_one (de_call (takes_of rfl rfl rfl rfl) I.o__law_good hr0 T.m__law_good T.k__law_good T.b__law_good (da_cons (de_var (i := 7)) (da_cons (de_var (i := 8)) da_nil))))))))))))))))))))
theorem oks (T : Txt K mg fA fD cA) : ∀ k, Oks P w K mg base fA cA fD k
  | 0 => ⟨fn_none, fn_none, fn_none, fn_none, fn_none, fn_none, fn_none, fn_none, fn_none, fn_none, fn_none, fn_none, fn_none, fn_none, fn_none, fn_none, fn_none, fn_none, fn_none, fn_none, fn_none, fn_none, fn_none, fn_none⟩
  | k + 1 => have I := oks T k
    ⟨ok_is_level T I, ok_look_name T I, ok_look_grade T I, ok_must T I, ok_is_body T I, ok_look_tiding T I, ok_look_ends T I, ok_Giver___init__ T I, ok_Giver_number T I, ok_Giver_pump T I, ok_Giver_keep T I, ok_Giver_say T I, ok_Giver_place_of T I, ok_Giver_took T I, ok_Giver_again T I, ok_Giver_many T I, ok_Taker___init__ T I, ok_Taker_took T I, ok__law_cell T I, ok__law_mix T I, ok__law_draw T I, ok__law_carried T I, ok__law_good T I, ok_law T I⟩
end
end TH.k32
end
section
set_option linter.all false
/-! L_k32: the bodies in pieces (printed by gen.py). -/
namespace TH.k32
open TH
def L__law_carried_1t_1 (c : Calls) : SM := sTgt (.tup [5, 6]) (xMeth c (G.mt 38) 32 (xVar 1) (aCons (xPopI (xVar 2) (xC (.int 0))) (aNil)))
def L__law_carried_1t_2 (c : Calls) : SM := sExpr (xExt (xVar 3) (xVar 5))
def L__law_carried_1t_3 (c : Calls) : SM := sExpr (xExt (xVar 4) (xVar 6))
def L__law_carried_1t (c : Calls) : SM := sSeq (L__law_carried_1t_1 c) (sSeq (L__law_carried_1t_2 c) (L__law_carried_1t_3 c))
def L__law_carried_1e_1 (c : Calls) : SM := sIf (xVar 3) (sExpr (xExt (xVar 2) (xMeth c (G.mt 38) 32 (xVar 0) (aCons (xPopI (xVar 3) (xC (.int 0))) (aNil))))) (sSkip)
def L__law_carried_1e (c : Calls) : SM := L__law_carried_1e_1 c
def L__law_carried_1 (c : Calls) : SM := sIf (xVar 2) (L__law_carried_1t c) (L__law_carried_1e c)
def L__law_carried (c : Calls) : SM := L__law_carried_1 c
theorem L__law_carried_eq (c : Calls) : B__law_carried c = L__law_carried c := rfl
def L__law_good_1b_1 (c : Calls) : SM := sSet 3 (xLst (lComp (iVal (xVar 0)) (.name 7) (some (xBin oEq (xBin oIx (xVar 7) (xC (.int 2))) (xVar 2))) (xVar 7) [7]))
def L__law_good_1b_2 (c : Calls) : SM := sSet 4 (xLst (lComp (iVal (xVar 1)) (.name 7) (some (xBin oEq (xBin oIx (xVar 7) (xC (.int 2))) (xVar 2))) (xVar 7) [7]))
def L__law_good_1b_3 (c : Calls) : SM := sSet 5 (xLst (lComp (iRng1 (xB bLen (aCons (xVar 4) (aNil)))) (.name 8) (some (xBin oNotIn (xBin oIx (xVar 4) (xVar 8)) (xLst (lSl (xVar 4) none (some (xVar 8)))))) (xBin oIx (xVar 4) (xVar 8)) [8]))
def L__law_good_1b_4 (c : Calls) : SM := sIf (xOr (xAnd (xBin oEq (xVar 2) (xC (.int 2))) (xBin oNe (xVar 4) (xVar 3))) (xAnd (xBin oEq (xVar 2) (xC (.int 1))) (xBin oNe (xVar 5) (xVar 3)))) (sRet (xC (.bl false))) (sSkip)
def L__law_good_1b_5 (c : Calls) : SM := sSet 6 (xLst (lComp (iVal (xVar 3)) (.name 7) (some (xBin oIn (xVar 7) (xVar 4))) (xVar 7) [7]))
def L__law_good_1b_6 (c : Calls) : SM := sIf (xAnd (xBin oEq (xVar 2) (xC (.int 0))) (xOr (xBin oNe (xVar 4) (xVar 5)) (xBin oNe (xVar 4) (xVar 6)))) (sRet (xC (.bl false))) (sSkip)
def L__law_good_1b (c : Calls) : SM := sSeq (L__law_good_1b_1 c) (sSeq (L__law_good_1b_2 c) (sSeq (L__law_good_1b_3 c) (sSeq (L__law_good_1b_4 c) (sSeq (L__law_good_1b_5 c) (L__law_good_1b_6 c)))))
def L__law_good_1 (c : Calls) : SM := sFor (iRng1 (xC (.int 3))) (.name 2) (L__law_good_1b c)
def L__law_good_2 (c : Calls) : SM := sRet (xBin oEq (xB bLen (aCons (xVar 1) (aNil))) (xB bLen (aCons (xLst (lComp (iVal (xVar 1)) (.name 7) (some (xBin oIn (xVar 7) (xVar 0))) (xVar 7) [7])) (aNil))))
def L__law_good (c : Calls) : SM := sSeq (L__law_good_1 c) (L__law_good_2 c)
theorem L__law_good_eq (c : Calls) : B__law_good c = L__law_good c := rfl
def L_law_1 (c : Calls) : SM := sSet 1 (xMut (lLst (aNil)))
def L_law_2 (c : Calls) : SM := sSet 2 (xBin oAdd (xC (.int 1)) (xCall c 202 (aCons (xVar 0) (aCons (xVar 1) (aCons (xC (.int 4)) (aNil))))))
def L_law_3 (c : Calls) : SM := sSet 3 (xMake c 14 54 (aCons (xVar 2) (aCons (xBin oAdd (xVar 2) (xCall c 202 (aCons (xVar 0) (aCons (xVar 1) (aCons (xC (.int 3)) (aNil)))))) (aNil))))
def L_law_4 (c : Calls) : SM := sSet 4 (xMake c 15 63 aNil)
def L_law_5 (c : Calls) : SM := sSet 5 (xMut (lLst (aNil)))
def L_law_6 (c : Calls) : SM := sSet 6 (xMut (lLst (aNil)))
def L_law_7 (c : Calls) : SM := sSet 7 (xMut (lLst (aNil)))
def L_law_8 (c : Calls) : SM := sSet 8 (xMut (lLst (aNil)))
def L_law_9b_1 (c : Calls) : SM := sSet 10 (xCall c 202 (aCons (xVar 0) (aCons (xVar 1) (aCons (xC (.int 12)) (aNil)))))
def L_law_9b_2t_1 (c : Calls) : SM := sExpr (xApp (xVar 7) (xTup (aCons (xC (.str [97])) (aCons (xBin oAdd (xC (.str [110])) (xB bStr (aCons (xB bLen (aCons (xVar 7) (aNil))) (aNil)))) (aCons (xCall c 202 (aCons (xVar 0) (aCons (xVar 1) (aCons (xC (.int 3)) (aNil))))) (aCons (xBin oEq (xVar 10) (xC (.int 0))) (aNil)))))))
def L_law_9b_2t_2 (c : Calls) : SM := sExpr (xExt (xVar 5) (xMeth c (G.mt 32) 32 (xVar 3) (aCons (xBin oIx (xBin oIx (xVar 7) (xNeg (xC (.int 1)))) (xC (.int 0))) (aCons (xBin oIx (xBin oIx (xVar 7) (xNeg (xC (.int 1)))) (xC (.int 1))) (aCons (xBin oIx (xBin oIx (xVar 7) (xNeg (xC (.int 1)))) (xC (.int 2))) (aCons (xBin oIx (xBin oIx (xVar 7) (xNeg (xC (.int 1)))) (xC (.int 3))) (aNil)))))))
def L_law_9b_2t (c : Calls) : SM := sSeq (L_law_9b_2t_1 c) (L_law_9b_2t_2 c)
def L_law_9b_2e_1e_1e_1t_1 (c : Calls) : SM := sSet 5 (xMut (lLst (aNil)))
def L_law_9b_2e_1e_1e_1t_2 (c : Calls) : SM := sSet 6 (xMut (lLst (aNil)))
def L_law_9b_2e_1e_1e_1t_3 (c : Calls) : SM := sExpr (xExt (xVar 5) (xMeth c (G.mt 0) 32 (xVar 3) aNil))
def L_law_9b_2e_1e_1e_1t (c : Calls) : SM := sSeq (L_law_9b_2e_1e_1e_1t_1 c) (sSeq (L_law_9b_2e_1e_1e_1t_2 c) (L_law_9b_2e_1e_1e_1t_3 c))
def L_law_9b_2e_1e_1e_1 (c : Calls) : SM := sIf (xBin oEq (xVar 10) (xC (.int 11))) (L_law_9b_2e_1e_1e_1t c) (sSkip)
def L_law_9b_2e_1e_1e (c : Calls) : SM := L_law_9b_2e_1e_1e_1 c
def L_law_9b_2e_1e_1 (c : Calls) : SM := sIf (xAnd (xBin oLt (xVar 10) (xC (.int 10))) (xVar 6)) (sExpr (xExt (xVar 5) (xMeth c (G.mt 38) 32 (xVar 3) (aCons (xPopI (xVar 6) (xC (.int 0))) (aNil))))) (L_law_9b_2e_1e_1e c)
def L_law_9b_2e_1e (c : Calls) : SM := L_law_9b_2e_1e_1 c
def L_law_9b_2e_1 (c : Calls) : SM := sIf (xBin oLt (xVar 10) (xC (.int 6))) (sExpr (xCall c 203 (aCons (xVar 3) (aCons (xVar 4) (aCons (xVar 5) (aCons (xVar 6) (aCons (xVar 8) (aNil)))))))) (L_law_9b_2e_1e c)
def L_law_9b_2e (c : Calls) : SM := L_law_9b_2e_1 c
def L_law_9b_2 (c : Calls) : SM := sIf (xAnd (xBin oLt (xVar 10) (xC (.int 3))) (xBin oLt (xB bLen (aCons (xVar 7) (aNil))) (xC (.int 16)))) (L_law_9b_2t c) (L_law_9b_2e c)
def L_law_9b_3 (c : Calls) : SM := sIf (xBin oGt (xBin oIx (xMeth c (G.mt 24) 32 (xVar 3) aNil) (xC (.int 0))) (xVar 2)) (sRet (xC (.bl false))) (sSkip)
def L_law_9b (c : Calls) : SM := sSeq (L_law_9b_1 c) (sSeq (L_law_9b_2 c) (L_law_9b_3 c))
def L_law_9 (c : Calls) : SM := sFor (iRng1 (xCall c 202 (aCons (xVar 0) (aCons (xVar 1) (aCons (xC (.int 61)) (aNil)))))) (.name 9) (L_law_9b c)
def L_law_10 (c : Calls) : SM := sSet 5 (xMeth c (G.mt 0) 32 (xVar 3) aNil)
def L_law_11 (c : Calls) : SM := sSet 6 (xMut (lLst (aNil)))
def L_law_12b_1 (c : Calls) : SM := sExpr (xCall c 203 (aCons (xVar 3) (aCons (xVar 4) (aCons (xVar 5) (aCons (xVar 6) (aCons (xVar 8) (aNil)))))))
def L_law_12b (c : Calls) : SM := L_law_12b_1 c
def L_law_12 (c : Calls) : SM := sFor (iRng1 (xC (.int 400))) (.name 9) (L_law_12b c)
def L_law_13 (c : Calls) : SM := sRet (xAnd (xBin oEq (xLst (lCat (xVar 5) (xVar 6))) (xLst (lLst (aNil)))) (xAnd (xBin oEq (xMeth c (G.mt 24) 32 (xVar 3) aNil) (xTup (aCons (xC (.int 0)) (aCons (xC (.int 0)) (aNil))))) (xCall c 204 (aCons (xVar 7) (aCons (xVar 8) (aNil))))))
def L_law (c : Calls) : SM := sSeq (L_law_1 c) (sSeq (L_law_2 c) (sSeq (L_law_3 c) (sSeq (L_law_4 c) (sSeq (L_law_5 c) (sSeq (L_law_6 c) (sSeq (L_law_7 c) (sSeq (L_law_8 c) (sSeq (L_law_9 c) (sSeq (L_law_10 c) (sSeq (L_law_11 c) (sSeq (L_law_12 c) (L_law_13 c))))))))))))
theorem L_law_eq (c : Calls) : B_law c = L_law c := rfl
end TH.k32
end
section
set_option linter.all false
set_option autoImplicit false
/-! TH9: how the combinators run, step by step, for simp. Plain Lean. -/
namespace TH.Q
open TH
variable {α β : Type}

/-! ### results -/
@[simp] theorem bind_ok (a : α) (st : St) (k : α → St → RR β) : RR.bind (.ok a st) k = k a st := id rfl
@[simp] theorem bind_exn (c : Nat) (st : St) (k : α → St → RR β) : RR.bind (.exn c st) k = .exn c st := id rfl
@[simp] theorem bind_stuck (k : α → St → RR β) : RR.bind .stuck k = .stuck := id rfl
@[simp] theorem bindS_ok (a : α) (st : St) (env : Env) (k : α → St → RS) : RR.bindS (.ok a st) env k = k a st := id rfl
@[simp] theorem bindS_exn (c : Nat) (st : St) (env : Env) (k : α → St → RS) : RR.bindS (.exn c st) env k = .exn c env st := id rfl
@[simp] theorem bindS_stuck (env : Env) (k : α → St → RS) : RR.bindS .stuck env k = .stuck := id rfl
@[simp] theorem seq_nx (env : Env) (st : St) (k : Env → St → RS) : RS.seq (.nx env st) k = k env st := id rfl
@[simp] theorem seq_ret (d : D) (st : St) (k : Env → St → RS) : RS.seq (.ret d st) k = .ret d st := id rfl
@[simp] theorem seq_brk (env : Env) (st : St) (k : Env → St → RS) : RS.seq (.brk env st) k = .brk env st := id rfl
@[simp] theorem seq_exn (c : Nat) (env : Env) (st : St) (k : Env → St → RS) : RS.seq (.exn c env st) k = .exn c env st := id rfl
@[simp] theorem seq_stuck (k : Env → St → RS) : RS.seq .stuck k = .stuck := id rfl
@[simp] theorem bind_ite {p : Prop} [Decidable p] (a b : RR α) (k : α → St → RR β) : RR.bind (if p then a else b) k = if p then a.bind k else b.bind k := by split <;> rfl
@[simp] theorem bindS_ite {p : Prop} [Decidable p] (a b : RR α) (env : Env) (k : α → St → RS) : RR.bindS (if p then a else b) env k = if p then a.bindS env k else b.bindS env k := by split <;> rfl
@[simp] theorem seq_ite {p : Prop} [Decidable p] (a b : RS) (k : Env → St → RS) : RS.seq (if p then a else b) k = if p then a.seq k else b.seq k := by split <;> rfl
@[simp] theorem ofO_some (d : D) (st : St) : ofO (some d) st = .ok d st := id rfl
@[simp] theorem ofO_none (st : St) : ofO none st = .stuck := id rfl
@[simp] theorem ofL_some (d : List D) (st : St) : ofL (some d) st = .ok d st := id rfl
@[simp] theorem noX_ok (a : α) (st : St) : noX (.ok a st) = .ok a st := id rfl
@[simp] theorem noX_ite {p : Prop} [Decidable p] (a b : RR α) : noX (if p then a else b) = if p then noX a else noX b := by split <;> rfl

/-! ### variables, constants -/
@[simp high] theorem get_zero (a : α) (l : List α) : (a :: l)[0]? = some a := id rfl
@[simp high] theorem get_one (a b : α) (l : List α) : (a :: b :: l)[1]? = some b := id rfl
@[simp high] theorem get_two (a b c : α) (l : List α) : (a :: b :: c :: l)[2]? = some c := id rfl
def vr (o : Option (Option D)) (st : St) : RE := match o with
  | some (some d) => .ok d st
  | _ => .stuck
@[simp] theorem vr_some (d : D) (st : St) : vr (some (some d)) st = .ok d st := id rfl
@[simp] theorem ap_var (i : Nat) (env : Env) (st : St) : xVar i env st = vr env[i]? st := id rfl
@[simp] theorem ap_C (d : D) (env : Env) (st : St) : xC d env st = .ok d st := id rfl

/-! ### operators -/
def bin2 (o : Op2) (x y : D) (st : St) : RE := ofO (o x y st) st
def bin1 (o : Op2) (g : EM) (env : Env) (x : D) (st : St) : RE := (g env st).bind (bin2 o x)
@[simp] theorem ap_bin (o : Op2) (f g : EM) (env : Env) (st : St) : xBin o f g env st = (f env st).bind (bin1 o g env) := id rfl
@[simp] theorem ap_bin1 (o : Op2) (g : EM) (env : Env) (x : D) (st : St) : bin1 o g env x st = (g env st).bind (bin2 o x) := id rfl
@[simp] theorem ap_bin2 (o : Op2) (x y : D) (st : St) : bin2 o x y st = ofO (o x y st) st := id rfl
def not2 (o : Option Bool) (st : St) : RE := match o with
  | some b => .ok (.bl (!b)) st
  | none => .stuck
def not1 (x : D) (st : St) : RE := not2 (truthy st x) st
@[simp] theorem ap_not (f : EM) (env : Env) (st : St) : xNot f env st = (f env st).bind not1 := by
  show (f env st).bind _ = _
  congr 1
@[simp] theorem ap_not1 (x : D) (st : St) : not1 x st = not2 (truthy st x) st := id rfl
@[simp] theorem ap_not2 (b : Bool) (st : St) : not2 (some b) st = .ok (.bl (!b)) st := id rfl
def neg1 (x : D) (st : St) : RE := match x with
  | .int i => .ok (.int (-i)) st
  | _ => .stuck
@[simp] theorem ap_neg (f : EM) (env : Env) (st : St) : xNeg f env st = (f env st).bind neg1 := id rfl
@[simp] theorem ap_neg1 (i : Int) (st : St) : neg1 (.int i) st = .ok (.int (-i)) st := id rfl

/-- and, or: the right side is run too; it counts only when the left side says so -/
def and3 (b : Bool) (r : RE) (x : D) (st : St) : RE := if b then r else .ok x st
def or3 (b : Bool) (r : RE) (x : D) (st : St) : RE := if b then .ok x st else r
def and2 (o : Option Bool) (r : RE) (x : D) (st : St) : RE := match o with
  | some b => and3 b r x st
  | none => .stuck
def or2 (o : Option Bool) (r : RE) (x : D) (st : St) : RE := match o with
  | some b => or3 b r x st
  | none => .stuck
def and1 (g : EM) (env : Env) (x : D) (st : St) : RE := and2 (truthy st x) (g env st) x st
def or1 (g : EM) (env : Env) (x : D) (st : St) : RE := or2 (truthy st x) (g env st) x st
@[simp] theorem ap_and (f g : EM) (env : Env) (st : St) : xAnd f g env st = (f env st).bind (and1 g env) := by
  show (f env st).bind _ = _
  congr 1; funext x st; unfold and1 and2 and3
  rcases truthy st x with _ | _ | _ <;> rfl
@[simp] theorem ap_or (f g : EM) (env : Env) (st : St) : xOr f g env st = (f env st).bind (or1 g env) := by
  show (f env st).bind _ = _
  congr 1; funext x st; unfold or1 or2 or3
  rcases truthy st x with _ | _ | _ <;> rfl
@[simp] theorem ap_and1 (g : EM) (env : Env) (x : D) (st : St) : and1 g env x st = and2 (truthy st x) (g env st) x st := id rfl
@[simp] theorem ap_or1 (g : EM) (env : Env) (x : D) (st : St) : or1 g env x st = or2 (truthy st x) (g env st) x st := id rfl
@[simp] theorem ap_and2 (b : Bool) (r : RE) (x : D) (st : St) : and2 (some b) r x st = and3 b r x st := id rfl
@[simp] theorem ap_or2 (b : Bool) (r : RE) (x : D) (st : St) : or2 (some b) r x st = or3 b r x st := id rfl
@[simp] theorem and3_t (r : RE) (x : D) (st : St) : and3 true r x st = r := id rfl
@[simp] theorem and3_f (r : RE) (x : D) (st : St) : and3 false r x st = .ok x st := id rfl
@[simp] theorem or3_t (r : RE) (x : D) (st : St) : or3 true r x st = .ok x st := id rfl
@[simp] theorem or3_f (r : RE) (x : D) (st : St) : or3 false r x st = r := id rfl
@[simp] theorem and3_b (b c : Bool) (st : St) : and3 b (.ok (.bl c) st) (.bl b) st = .ok (.bl (b && c)) st := by cases b <;> rfl
@[simp] theorem or3_b (b c : Bool) (st : St) : or3 b (.ok (.bl c) st) (.bl b) st = .ok (.bl (b || c)) st := by cases b <;> rfl

/-- one of two -/
def if3 (b : Bool) (r s : RE) : RE := if b then r else s
def if2 (o : Option Bool) (r s : RE) : RE := match o with
  | some b => if3 b r s
  | none => .stuck
def if1 (f g : EM) (env : Env) (x : D) (st : St) : RE := if2 (truthy st x) (f env st) (g env st)
@[simp] theorem ap_if (c f g : EM) (env : Env) (st : St) : xIf c f g env st = (c env st).bind (if1 f g env) := by
  show (c env st).bind _ = _
  congr 1; funext x st; unfold if1 if2 if3
  rcases truthy st x with _ | _ | _ <;> rfl
@[simp] theorem ap_if1 (f g : EM) (env : Env) (x : D) (st : St) : if1 f g env x st = if2 (truthy st x) (f env st) (g env st) := id rfl
@[simp] theorem ap_if2 (b : Bool) (r s : RE) : if2 (some b) r s = if3 b r s := id rfl
@[simp] theorem if3_t (r s : RE) : if3 true r s = r := id rfl
@[simp] theorem if3_f (r s : RE) : if3 false r s = s := id rfl
@[simp] theorem if3_b (b : Bool) (x y : D) (st : St) : if3 b (.ok x st) (.ok y st) = .ok (if b then x else y) st := by cases b <;> rfl
@[simp] theorem ite_bl {p : Prop} [Decidable p] (x y : Bool) : (if p then D.bl x else D.bl y) = D.bl (if p then x else y) := by split <;> rfl
@[simp] theorem ite_int {p : Prop} [Decidable p] (x y : Int) : (if p then D.int x else D.int y) = D.int (if p then x else y) := by split <;> rfl
@[simp] theorem ite_str {p : Prop} [Decidable p] (x y : List Nat) : (if p then D.str x else D.str y) = D.str (if p then x else y) := by split <;> rfl
@[simp] theorem ite_lst {p : Prop} [Decidable p] (x y : List D) : (if p then D.lst x else D.lst y) = D.lst (if p then x else y) := by split <;> rfl

def ch3 (o : Option D) (p : Op2) (r : RE) (y : D) (st : St) : RE := match o with
  | some (.bl true) => r.bind fun z st => ofO (p y z st) st
  | some (.bl false) => .ok (.bl false) st
  | _ => .stuck
def ch2 (o p : Op2) (h : EM) (env : Env) (x y : D) (st : St) : RE := ch3 (o x y st) p (h env st) y st
def ch1 (o p : Op2) (g h : EM) (env : Env) (x : D) (st : St) : RE := (g env st).bind (ch2 o p h env x)
@[simp] theorem ap_chain (o p : Op2) (f g h : EM) (env : Env) (st : St) : xChain o p f g h env st = (f env st).bind (ch1 o p g h env) := by
  show (f env st).bind _ = _
  congr 1
@[simp] theorem ap_ch1 (o p : Op2) (g h : EM) (env : Env) (x : D) (st : St) : ch1 o p g h env x st = (g env st).bind (ch2 o p h env x) := id rfl
@[simp] theorem ap_ch2 (o p : Op2) (h : EM) (env : Env) (x y : D) (st : St) : ch2 o p h env x y st = ch3 (o x y st) p (h env st) y st := id rfl
def ch4 (b : Bool) (r : RE) (st : St) : RE := if b then r else .ok (.bl false) st
@[simp] theorem ap_ch3 (b : Bool) (p : Op2) (z y : D) (st st' : St) : ch3 (some (.bl b)) p (.ok z st') y st = ch4 b (ofO (p y z st') st') st := by cases b <;> rfl
@[simp] theorem ch4_b (b c : Bool) (st : St) : ch4 b (.ok (.bl c) st) st = .ok (.bl (b && c)) st := by cases b <;> rfl

/-! ### tuples, lists -/
@[simp] theorem ap_nil (env : Env) (st : St) : aNil env st = .ok [] st := id rfl
def cns2 (x : D) (xs : List D) (st : St) : RA := .ok (x :: xs) st
def cns1 (g : AM) (env : Env) (x : D) (st : St) : RA := (g env st).bind (cns2 x)
@[simp] theorem ap_cons (f : EM) (g : AM) (env : Env) (st : St) : aCons f g env st = (f env st).bind (cns1 g env) := id rfl
@[simp] theorem ap_cns1 (g : AM) (env : Env) (x : D) (st : St) : cns1 g env x st = (g env st).bind (cns2 x) := id rfl
@[simp] theorem ap_cns2 (x : D) (xs : List D) (st : St) : cns2 x xs st = .ok (x :: xs) st := id rfl
def tup1 (xs : List D) (st : St) : RE := if xs.length ≤ LN then .ok (.tup xs) st else .stuck
@[simp] theorem ap_tup (a : AM) (env : Env) (st : St) : xTup a env st = (a env st).bind tup1 := id rfl
theorem tup1_ok {xs : List D} {st : St} (h : xs.length ≤ 16777216) : tup1 xs st = .ok (.tup xs) st := if_pos h
def lst1 (xs : List D) (st : St) : RA := if xs.length ≤ LN then .ok xs st else .stuck
@[simp] theorem ap_llst (a : AM) (env : Env) (st : St) : lLst a env st = (a env st).bind lst1 := id rfl
theorem lst1_ok {xs : List D} {st : St} (h : xs.length ≤ 16777216) : lst1 xs st = .ok xs st := if_pos h
@[simp] theorem tup1_0 (st : St) : tup1 [] st = .ok (.tup []) st := tup1_ok (by simp)
@[simp] theorem tup1_1 (a : D) (st : St) : tup1 [a] st = .ok (.tup [a]) st := tup1_ok (by simp)
@[simp] theorem tup1_2 (a b : D) (st : St) : tup1 [a, b] st = .ok (.tup [a, b]) st := tup1_ok (by simp)
@[simp] theorem tup1_3 (a b c : D) (st : St) : tup1 [a, b, c] st = .ok (.tup [a, b, c]) st := tup1_ok (by simp)
@[simp] theorem tup1_4 (a b c d : D) (st : St) : tup1 [a, b, c, d] st = .ok (.tup [a, b, c, d]) st := tup1_ok (by simp)
@[simp] theorem tup1_5 (a b c d e : D) (st : St) : tup1 [a, b, c, d, e] st = .ok (.tup [a, b, c, d, e]) st := tup1_ok (by simp)
@[simp] theorem tup1_6 (a b c d e f : D) (st : St) : tup1 [a, b, c, d, e, f] st = .ok (.tup [a, b, c, d, e, f]) st := tup1_ok (by simp)
@[simp] theorem tup1_7 (a b c d e f g : D) (st : St) : tup1 [a, b, c, d, e, f, g] st = .ok (.tup [a, b, c, d, e, f, g]) st := tup1_ok (by simp)
@[simp] theorem lst1_0 (st : St) : lst1 [] st = .ok [] st := lst1_ok (by simp)
@[simp] theorem lst1_1 (a : D) (st : St) : lst1 [a] st = .ok [a] st := lst1_ok (by simp)
@[simp] theorem lst1_2 (a b : D) (st : St) : lst1 [a, b] st = .ok [a, b] st := lst1_ok (by simp)
@[simp] theorem lst1_3 (a b c : D) (st : St) : lst1 [a, b, c] st = .ok [a, b, c] st := lst1_ok (by simp)
@[simp] theorem lst1_4 (a b c d : D) (st : St) : lst1 [a, b, c, d] st = .ok [a, b, c, d] st := lst1_ok (by simp)
@[simp] theorem lst1_5 (a b c d e : D) (st : St) : lst1 [a, b, c, d, e] st = .ok [a, b, c, d, e] st := lst1_ok (by simp)
@[simp] theorem lst1_6 (a b c d e f : D) (st : St) : lst1 [a, b, c, d, e, f] st = .ok [a, b, c, d, e, f] st := lst1_ok (by simp)
@[simp] theorem lst1_7 (a b c d e f g : D) (st : St) : lst1 [a, b, c, d, e, f, g] st = .ok [a, b, c, d, e, f, g] st := lst1_ok (by simp)
@[simp] theorem lst1_8 (a b c d e f g h : D) (st : St) : lst1 [a, b, c, d, e, f, g, h] st = .ok [a, b, c, d, e, f, g, h] st := lst1_ok (by simp)
@[simp] theorem lst1_9 (a b c d e f g h i : D) (st : St) : lst1 [a, b, c, d, e, f, g, h, i] st = .ok [a, b, c, d, e, f, g, h, i] st := lst1_ok (by simp)
@[simp] theorem lst1_10 (a b c d e f g h i j : D) (st : St) : lst1 [a, b, c, d, e, f, g, h, i, j] st = .ok [a, b, c, d, e, f, g, h, i, j] st := lst1_ok (by simp)
def val1 (xs : List D) (st : St) : RE := .ok (.lst xs) st
def mut1 (xs : List D) (st : St) : RE := .ok (.ref st.length) (st ++ [.ml xs])
@[simp] theorem ap_xlst (a : LM) (env : Env) (st : St) : xLst a env st = (a env st).bind val1 := id rfl
@[simp] theorem ap_val1 (xs : List D) (st : St) : val1 xs st = .ok (.lst xs) st := id rfl
@[simp] theorem ap_mut (a : LM) (env : Env) (st : St) : xMut a env st = (a env st).bind mut1 := id rfl
@[simp] theorem ap_mut1 (xs : List D) (st : St) : mut1 xs st = .ok (.ref st.length) (st ++ [.ml xs]) := id rfl
def frz2 (o : Option Ob) (n : Nat) (st : St) : RE := match o with
  | some (.ml l) => .ok (.lst l) (st.set n (.fz l))
  | some (.fz l) => .ok (.lst l) st
  | _ => .stuck
def frz1 (x : D) (st : St) : RE := match x with
  | .ref n => frz2 st[n]? n st
  | .lst l => .ok (.lst l) st
  | _ => .stuck
@[simp] theorem ap_frz (f : EM) (env : Env) (st : St) : xFrz f env st = (f env st).bind frz1 := by
  show (f env st).bind _ = _
  congr 1
@[simp] theorem ap_frz1 (n : Nat) (st : St) : frz1 (.ref n) st = frz2 st[n]? n st := id rfl
@[simp] theorem ap_frz1l (l : List D) (st : St) : frz1 (.lst l) st = .ok (.lst l) st := id rfl
@[simp] theorem ap_frz2 (l : List D) (n : Nat) (st : St) : frz2 (some (.ml l)) n st = .ok (.lst l) (st.set n (.fz l)) := id rfl
@[simp] theorem ap_frz2f (l : List D) (n : Nat) (st : St) : frz2 (some (.fz l)) n st = .ok (.lst l) st := id rfl

/-! ### a list's items -/
def asO (o : Option Ob) : Option (List D) := match o with
  | some (.ml l) => some l
  | some (.fz l) => some l
  | _ => none
@[simp] theorem asO_ml (l : List D) : asO (some (.ml l)) = some l := id rfl
@[simp] theorem asO_fz (l : List D) : asO (some (.fz l)) = some l := id rfl
@[simp] theorem asL_lst (st : St) (l : List D) : asL st (.lst l) = some l := id rfl
@[simp] theorem asL_ref (st : St) (n : Nat) : asL st (.ref n) = asO st[n]? := by
  unfold asO; show (match st[n]? with | some (.ml l) => some l | some (.fz l) => some l | _ => none) = _; rfl
@[simp] theorem asL_str (st : St) (l : List Nat) : asL st (.str l) = none := id rfl
@[simp] theorem asL_tup (st : St) (l : List D) : asL st (.tup l) = none := id rfl
@[simp] theorem asL_int (st : St) (i : Int) : asL st (.int i) = none := id rfl
@[simp] theorem asL_bl (st : St) (i : Bool) : asL st (.bl i) = none := id rfl
@[simp] theorem asL_non (st : St) : asL st .non = none := id rfl
def adO (o : Option Ob) (n : Nat) : D := match o with
  | some (.ml l) => .lst l
  | some (.fz l) => .lst l
  | _ => .ref n
@[simp] theorem adO_ml (l : List D) (n : Nat) : adO (some (.ml l)) n = .lst l := id rfl
@[simp] theorem adO_fz (l : List D) (n : Nat) : adO (some (.fz l)) n = .lst l := id rfl
@[simp] theorem asD_ref (st : St) (n : Nat) : asD st (.ref n) = adO st[n]? n := by
  show (match st[n]? with | some (.ml l) => D.lst l | some (.fz l) => .lst l | _ => .ref n) = _; rfl
@[simp] theorem asD_lst (st : St) (l : List D) : asD st (.lst l) = .lst l := id rfl
@[simp] theorem asD_tup (st : St) (l : List D) : asD st (.tup l) = .tup l := id rfl
@[simp] theorem asD_str (st : St) (l : List Nat) : asD st (.str l) = .str l := id rfl
@[simp] theorem asD_int (st : St) (l : Int) : asD st (.int l) = .int l := id rfl
@[simp] theorem asD_bl (st : St) (l : Bool) : asD st (.bl l) = .bl l := id rfl
@[simp] theorem asD_non (st : St) : asD st .non = .non := id rfl

/-! ### truth -/
@[simp] theorem truthy_bl (st : St) (b : Bool) : truthy st (.bl b) = some b := id rfl
@[simp] theorem truthy_non (st : St) : truthy st .non = some false := id rfl
@[simp] theorem truthy_int (st : St) (i : Int) : truthy st (.int i) = some (i != 0) := id rfl
@[simp] theorem truthy_tup (st : St) (l : List D) : truthy st (.tup l) = some (!l.isEmpty) := id rfl
@[simp] theorem truthy_lst (st : St) (l : List D) : truthy st (.lst l) = some (!l.isEmpty) := id rfl
theorem truthy_str {st : St} {s : List Nat} (h : s.length ≤ 16777216) : truthy st (.str s) = some (!s.isEmpty) := if_pos h
def trO (o : Option Ob) : Option Bool := match o with
  | some (.ml l) => some (!l.isEmpty)
  | some (.fz l) => some (!l.isEmpty)
  | some (.md false kvs) => some (!kvs.isEmpty)
  | _ => none
@[simp] theorem truthy_ref (st : St) (n : Nat) : truthy st (.ref n) = trO st[n]? := by
  show (match st[n]? with | some (.ml l) => some (!l.isEmpty) | some (.fz l) => some (!l.isEmpty) | some (.md false kvs) => some (!kvs.isEmpty) | _ => none) = _; rfl
@[simp] theorem trO_md (l : List (D × D)) : trO (some (.md false l)) = some (!l.isEmpty) := id rfl
@[simp] theorem trO_ml (l : List D) : trO (some (.ml l)) = some (!l.isEmpty) := id rfl
@[simp] theorem trO_fz (l : List D) : trO (some (.fz l)) = some (!l.isEmpty) := id rfl

/-! ### operators by kinds -/
@[simp] theorem oAdd_int (i j : Int) (st : St) : oAdd (.int i) (.int j) st = some (.int (i + j)) := id rfl
theorem oAdd_str {a b : List Nat} {st : St} (h : a.length + b.length ≤ 16777216) : oAdd (.str a) (.str b) st = some (.str (a ++ b)) := if_pos h
theorem oAdd_tup {a b : List D} {st : St} (h : a.length + b.length ≤ 16777216) (ha : a.isEmpty = false) : oAdd (.tup a) (.tup b) st = some (.tup (a ++ b)) := if_pos ⟨h, ha⟩
@[simp] theorem oSub_int (i j : Int) (st : St) : oSub (.int i) (.int j) st = some (.int (i - j)) := id rfl
theorem oMul_l {i j : Int} {st : St} (h : -(2 ^ 64) < i ∧ i < 2 ^ 64) : oMul (.int i) (.int j) st = some (.int (i * j)) := if_pos (.inl h)
theorem oMul_r {i j : Int} {st : St} (h : -(2 ^ 64) < j ∧ j < 2 ^ 64) : oMul (.int i) (.int j) st = some (.int (i * j)) := if_pos (.inr h)
theorem oDiv_int {i j : Int} {st : St} (h : 0 < j ∧ j < 1073741824) : oDiv (.int i) (.int j) st = some (.int (i / j)) := if_pos h
theorem oMod_int {i j : Int} {st : St} (h : 0 < j) : oMod (.int i) (.int j) st = some (.int (i % j)) := if_pos h
theorem oPow_int {i j : Int} {st : St} (h : 0 ≤ j ∧ j ≤ 1000000 ∧ i.natAbs < 2 ^ 64) : oPow (.int i) (.int j) st = some (.int (i ^ j.toNat)) := if_pos h
@[simp] theorem oEq_str (a b : List Nat) (st : St) : oEq (.str a) (.str b) st = some (.bl (a == b)) := id rfl
@[simp] theorem oNe_str (a b : List Nat) (st : St) : oNe (.str a) (.str b) st = some (.bl (!(a == b))) := id rfl
@[simp] theorem oEq_int (a b : Int) (st : St) : oEq (.int a) (.int b) st = some (.bl (a == b)) := id rfl
@[simp] theorem oNe_int (a b : Int) (st : St) : oNe (.int a) (.int b) st = some (.bl (!(a == b))) := id rfl
@[simp] theorem oEq_bl (a b : Bool) (st : St) : oEq (.bl a) (.bl b) st = some (.bl (a == b)) := id rfl
@[simp] theorem oNe_bl (a b : Bool) (st : St) : oNe (.bl a) (.bl b) st = some (.bl (!(a == b))) := id rfl
theorem oEq_pu {x y : D} {st : St} (hx : x.pu 20 = true) (hy : y.pu 20 = true) : eqD x y = some (x.eqv y) := by
  unfold eqD
  split
  · rfl
  · rw [hx, hy]; rfl
@[simp] theorem oLt_int (i j : Int) (st : St) : oLt (.int i) (.int j) st = some (.bl (decide (i < j))) := id rfl
@[simp] theorem oLe_int (i j : Int) (st : St) : oLe (.int i) (.int j) st = some (.bl (decide (i ≤ j))) := id rfl
@[simp] theorem oGt_int (i j : Int) (st : St) : oGt (.int i) (.int j) st = some (.bl (decide (j < i))) := id rfl
@[simp] theorem oGe_int (i j : Int) (st : St) : oGe (.int i) (.int j) st = some (.bl (decide (j ≤ i))) := id rfl
@[simp] theorem oLt_str (i j : List Nat) (st : St) : oLt (.str i) (.str j) st = some (.bl (decide (i < j))) := id rfl
@[simp] theorem oIn_str (a : Nat) (s : List Nat) (st : St) : oIn (.str [a]) (.str s) st = some (.bl (s.contains a)) := id rfl
@[simp] theorem oNotIn_str (a : Nat) (s : List Nat) (st : St) : oNotIn (.str [a]) (.str s) st = some (.bl (!s.contains a)) := id rfl
theorem oIn_tup {x : D} {l : List D} {st : St} (h : x.flat = true) (hl : l.all D.flat = true) : oIn x (.tup l) st = some (.bl (l.any fun y => y.eqv x)) := by
  show (inT x l).map D.bl = _
  unfold inT; rw [h, hl]; rfl
theorem oNotIn_tup {x : D} {l : List D} {st : St} (h : x.flat = true) (hl : l.all D.flat = true) : oNotIn x (.tup l) st = some (.bl (!(l.any fun y => y.eqv x))) := by
  unfold oNotIn; rw [oIn_tup h hl]
theorem oIn_lst {x : D} {l : List D} {st : St} (h : x.flat = true) (hl : l.all D.flat = true) : oIn x (.lst l) st = some (.bl (l.any fun y => y.eqv x)) := by
  show (inL x l).map D.bl = _
  unfold inL; rw [h, hl]; rfl
@[simp] theorem oIs_non (st : St) : oIs .non .non st = some (.bl true) := id rfl
@[simp] theorem oIs_str (x : List Nat) (st : St) : oIs (.str x) .non st = some (.bl false) := id rfl
@[simp] theorem oIs_int (x : Int) (st : St) : oIs (.int x) .non st = some (.bl false) := id rfl
@[simp] theorem oIs_bl (x : Bool) (st : St) : oIs (.bl x) .non st = some (.bl false) := id rfl
@[simp] theorem oIs_tup (x : List D) (st : St) : oIs (.tup x) .non st = some (.bl false) := id rfl
@[simp] theorem oIs_lst (x : List D) (st : St) : oIs (.lst x) .non st = some (.bl false) := id rfl
@[simp] theorem oIs_ref (x : Nat) (st : St) : oIs (.ref x) .non st = some (.bl false) := id rfl
@[simp] theorem oIs_exc (x : Nat) (st : St) : oIs (.exc x) .non st = some (.bl false) := id rfl
@[simp] theorem oIsNot_non (st : St) : oIsNot .non .non st = some (.bl false) := id rfl
@[simp] theorem oIsNot_str (x : List Nat) (st : St) : oIsNot (.str x) .non st = some (.bl true) := id rfl
@[simp] theorem oIsNot_int (x : Int) (st : St) : oIsNot (.int x) .non st = some (.bl true) := id rfl
@[simp] theorem oIsNot_bl (x : Bool) (st : St) : oIsNot (.bl x) .non st = some (.bl true) := id rfl
@[simp] theorem oIsNot_tup (x : List D) (st : St) : oIsNot (.tup x) .non st = some (.bl true) := id rfl
@[simp] theorem oIsNot_lst (x : List D) (st : St) : oIsNot (.lst x) .non st = some (.bl true) := id rfl
@[simp] theorem oIsNot_ref (x : Nat) (st : St) : oIsNot (.ref x) .non st = some (.bl true) := id rfl

theorem ixN_nat (n k : Nat) : ixN n (k : Int) = if k < n then some k else none := by
  unfold ixN
  rw [if_pos (by omega)]
  by_cases h : k < n
  · rw [if_pos (by omega), if_pos h]; simp
  · rw [if_neg (by omega), if_neg h]
theorem ixN_m1 (n : Nat) (h : 0 < n) : ixN n (-1) = some (n - 1) := by
  unfold ixN
  rw [if_neg (by omega), if_pos (by omega)]
  congr 1; omega
theorem ix_nat {α : Type} (l : List α) (k : Nat) : ((ixN l.length (k : Int)).bind fun j => l[j]?) = l[k]? := by
  rw [ixN_nat]
  by_cases h : k < l.length
  · rw [if_pos h]; rfl
  · rw [if_neg h]; simp; omega
theorem ix_m1 {α : Type} (l : List α) : ((ixN l.length (-1)).bind fun j => l[j]?) = l.getLast? := by
  cases l with
  | nil => rfl
  | cons a l => rw [ixN_m1 _ (by simp), List.getLast?_eq_getElem?]; rfl
theorem oIx_lst (l : List D) (k : Nat) (st : St) : oIx (.lst l) (.int (k : Int)) st = l[k]? := ix_nat l k
theorem oIx_tup (l : List D) (k : Nat) (st : St) : oIx (.tup l) (.int (k : Int)) st = l[k]? := ix_nat l k
@[simp] theorem oIx_lst0 (l : List D) (st : St) : oIx (.lst l) (.int 0) st = l.head? := by
  rw [List.head?_eq_getElem?]; exact ix_nat l 0
@[simp] theorem oIx_tup0 (l : List D) (st : St) : oIx (.tup l) (.int 0) st = l.head? := by
  rw [List.head?_eq_getElem?]; exact ix_nat l 0
@[simp] theorem oIx_lst1 (l : List D) (st : St) : oIx (.lst l) (.int 1) st = l[1]? := ix_nat l 1
@[simp] theorem oIx_tup1 (l : List D) (st : St) : oIx (.tup l) (.int 1) st = l[1]? := ix_nat l 1
@[simp] theorem oIx_lst2 (l : List D) (st : St) : oIx (.lst l) (.int 2) st = l[2]? := ix_nat l 2
@[simp] theorem oIx_tup2 (l : List D) (st : St) : oIx (.tup l) (.int 2) st = l[2]? := ix_nat l 2
@[simp] theorem oIx_tup3 (l : List D) (st : St) : oIx (.tup l) (.int 3) st = l[3]? := ix_nat l 3
@[simp] theorem oIx_tup4 (l : List D) (st : St) : oIx (.tup l) (.int 4) st = l[4]? := ix_nat l 4
@[simp] theorem oIx_tup5 (l : List D) (st : St) : oIx (.tup l) (.int 5) st = l[5]? := ix_nat l 5
@[simp] theorem oIx_tup6 (l : List D) (st : St) : oIx (.tup l) (.int 6) st = l[6]? := ix_nat l 6
@[simp] theorem oIx_lstm1 (l : List D) (st : St) : oIx (.lst l) (.int (-1)) st = l.getLast? := ix_m1 l
theorem oIx_str {s : List Nat} {k : Nat} {st : St} (h : s.length ≤ 16777216) : oIx (.str s) (.int (k : Int)) st = (s[k]?).map fun c => .str [c] := by
  show (if s.length ≤ LN then _ else none) = _
  rw [if_pos (show s.length ≤ LN from h), ixN_nat]
  by_cases h' : k < s.length
  · rw [if_pos h']; rfl
  · rw [if_neg h', List.getElem?_eq_none (by omega)]; rfl
theorem oIx_ref {n : Nat} {i : Int} {st : St} {l : List D} (h : asO st[n]? = some l) : oIx (.ref n) (.int i) st = oIx (.lst l) (.int i) st := by
  show (match asL st (.ref n) with | some l => (ixN l.length i).bind fun j => l[j]? | none => none) = _
  rw [asL_ref, h]; rfl

/-! ### slices -/
def slK (lo hi : Option Int) (x : Option (List D)) (st : St) : RA := match x with
  | some xs => .ok (cut xs lo hi) st
  | none => .stuck
@[simp] theorem slK_some (lo hi : Option Int) (xs : List D) (st : St) : slK lo hi (some xs) st = .ok (cut xs lo hi) st := id rfl
def sl3 (x : D) (lo hi : Option Int) (st : St) : RA := slK lo hi (asL st x) st
def sl2 (x : D) (hi : Option EM) (env : Env) (lo : Option Int) (st : St) : RA := (xPart hi env st).bind (sl3 x lo)
def sl1 (lo hi : Option EM) (env : Env) (x : D) (st : St) : RA := (xPart lo env st).bind (sl2 x hi env)
@[simp] theorem ap_sl (f : EM) (lo hi : Option EM) (env : Env) (st : St) : lSl f lo hi env st = (f env st).bind (sl1 lo hi env) := id rfl
@[simp] theorem ap_sl1 (lo hi : Option EM) (env : Env) (x : D) (st : St) : sl1 lo hi env x st = (xPart lo env st).bind (sl2 x hi env) := id rfl
@[simp] theorem ap_sl2 (x : D) (hi : Option EM) (env : Env) (lo : Option Int) (st : St) : sl2 x hi env lo st = (xPart hi env st).bind (sl3 x lo) := id rfl
@[simp] theorem ap_sl3 (x : D) (lo hi : Option Int) (st : St) : sl3 x lo hi st = slK lo hi (asL st x) st := id rfl
def prt1 (x : D) (st : St) : RR (Option Int) := match x with
  | .int i => .ok (some i) st
  | _ => .stuck
@[simp] theorem ap_prtn (env : Env) (st : St) : xPart none env st = .ok none st := id rfl
@[simp] theorem ap_prts (f : EM) (env : Env) (st : St) : xPart (some f) env st = (f env st).bind prt1 := id rfl
@[simp] theorem ap_prt1 (i : Int) (st : St) : prt1 (.int i) st = .ok (some i) st := id rfl
def xs3 (x : D) (lo hi : Option Int) (st : St) : RE := match x with
  | .str s => if s.length ≤ LN then .ok (.str (cut s lo hi)) st else .stuck
  | .tup xs => .ok (.tup (cut xs lo hi)) st
  | _ => .stuck
def xs2 (x : D) (hi : Option EM) (env : Env) (lo : Option Int) (st : St) : RE := (xPart hi env st).bind (xs3 x lo)
def xs1 (lo hi : Option EM) (env : Env) (x : D) (st : St) : RE := (xPart lo env st).bind (xs2 x hi env)
@[simp] theorem ap_xsl (f : EM) (lo hi : Option EM) (env : Env) (st : St) : xSl f lo hi env st = (f env st).bind (xs1 lo hi env) := id rfl
@[simp] theorem ap_xs1 (lo hi : Option EM) (env : Env) (x : D) (st : St) : xs1 lo hi env x st = (xPart lo env st).bind (xs2 x hi env) := id rfl
@[simp] theorem ap_xs2 (x : D) (hi : Option EM) (env : Env) (lo : Option Int) (st : St) : xs2 x hi env lo st = (xPart hi env st).bind (xs3 x lo) := id rfl
@[simp] theorem xs3_tup (xs : List D) (lo hi : Option Int) (st : St) : xs3 (.tup xs) lo hi st = .ok (.tup (cut xs lo hi)) st := id rfl
theorem xs3_str {s : List Nat} {lo hi : Option Int} {st : St} (h : s.length ≤ 16777216) : xs3 (.str s) lo hi st = .ok (.str (cut s lo hi)) st := if_pos h
def cat3 (a b : Option (List D)) (st : St) : RA := match a, b with
  | some a, some b => if a.length + b.length ≤ LN then .ok (a ++ b) st else .stuck
  | _, _ => .stuck
def cat2 (x y : D) (st : St) : RA := cat3 (asL st x) (asL st y) st
def cat1 (g : EM) (env : Env) (x : D) (st : St) : RA := (g env st).bind (cat2 x)
@[simp] theorem ap_cat (f g : EM) (env : Env) (st : St) : lCat f g env st = (f env st).bind (cat1 g env) := id rfl
@[simp] theorem ap_cat1 (g : EM) (env : Env) (x : D) (st : St) : cat1 g env x st = (g env st).bind (cat2 x) := id rfl
@[simp] theorem ap_cat2 (x y : D) (st : St) : cat2 x y st = cat3 (asL st x) (asL st y) st := id rfl
theorem cat3_ok {a b : List D} {st : St} (h : a.length + b.length ≤ 16777216) : cat3 (some a) (some b) st = .ok (a ++ b) st := if_pos h
section
variable {γ : Type}
theorem sIx_nat (n d k : Nat) : sIx n d (some (k : Int)) = min k n := by
  simp only [sIx]
  rw [if_neg (by omega), Int.toNat_natCast]
theorem sIx_m1 (n d : Nat) : sIx n d (some (-1)) = n - 1 := by
  simp only [sIx]
  rw [if_pos (by omega)]; omega
@[simp] theorem cut_take (l : List γ) (n : Nat) : cut l none (some (n : Int)) = l.take n := by
  unfold cut
  show (l.drop 0).take (sIx l.length l.length (some (n : Int)) - 0) = _
  rw [sIx_nat]
  simp only [List.drop_zero, Nat.sub_zero]
  by_cases h : n ≤ l.length
  · rw [Nat.min_eq_left h]
  · rw [Nat.min_eq_right (by omega), List.take_of_length_le (Nat.le_refl _), List.take_of_length_le (by omega)]
@[simp] theorem cut_take1 (l : List γ) : cut l none (some 1) = l.take 1 := cut_take l 1
@[simp] theorem cut_take2 (l : List γ) : cut l none (some 2) = l.take 2 := cut_take l 2
@[simp] theorem cut_drop (l : List γ) (n : Nat) : cut l (some (n : Int)) none = l.drop n := by
  unfold cut
  show (l.drop (sIx l.length 0 (some (n : Int)))).take (l.length - _) = _
  rw [sIx_nat]
  by_cases h : n ≤ l.length
  · rw [Nat.min_eq_left h, List.take_of_length_le (by simp)]
  · rw [Nat.min_eq_right (by omega), List.drop_of_length_le (Nat.le_refl _), List.drop_of_length_le (by omega)]; simp
@[simp] theorem cut_drop1 (l : List γ) : cut l (some 1) none = l.drop 1 := cut_drop l 1
@[simp] theorem cut_drop2 (l : List γ) : cut l (some 2) none = l.drop 2 := cut_drop l 2
@[simp] theorem cut_init (l : List γ) : cut l none (some (-1)) = l.dropLast := by
  unfold cut
  show (l.drop 0).take (sIx l.length l.length (some (-1)) - 0) = _
  rw [sIx_m1, List.dropLast_eq_take]
  simp only [List.drop_zero, Nat.sub_zero]
end

/-! ### calls, built-in functions -/
def blt1 (o : List D → St → Option D) (ds : List D) (st : St) : RE := ofO (o ds st) st
@[simp] theorem ap_call (c : Calls) (f : Nat) (a : AM) (env : Env) (st : St) : xCall c f a env st = (a env st).bind (c f) := id rfl
@[simp] theorem ap_blt (o : List D → St → Option D) (a : AM) (env : Env) (st : St) : xB o a env st = (a env st).bind (blt1 o) := id rfl
@[simp] theorem ap_blt1 (o : List D → St → Option D) (ds : List D) (st : St) : blt1 o ds st = ofO (o ds st) st := id rfl
@[simp] theorem bLen_lst (l : List D) (st : St) : bLen [.lst l] st = some (.int l.length) := id rfl
@[simp] theorem bLen_tup (l : List D) (st : St) : bLen [.tup l] st = some (.int l.length) := id rfl
theorem bLen_str {s : List Nat} {st : St} (h : s.length ≤ 16777216) : bLen [.str s] st = some (.int s.length) := if_pos h
def lnO (o : Option Ob) : Option D := match o with
  | some (.ml l) => some (.int l.length)
  | some (.fz l) => some (.int l.length)
  | some (.md _ kvs) => some (.int kvs.length)
  | _ => none
@[simp] theorem lnO_ml (l : List D) : lnO (some (.ml l)) = some (.int l.length) := id rfl
@[simp] theorem lnO_fz (l : List D) : lnO (some (.fz l)) = some (.int l.length) := id rfl
@[simp] theorem lnO_md (t : Bool) (l : List (D × D)) : lnO (some (.md t l)) = some (.int l.length) := id rfl
theorem lnO_as {o : Option Ob} {l : List D} (h : asO o = some l) : lnO o = some (.int l.length) := by
  unfold asO at h
  split at h <;> first | (cases h; rfl) | cases h
@[simp] theorem bLen_ref (n : Nat) (st : St) : bLen [.ref n] st = lnO st[n]? := by
  show (match asL st (.ref n) with
    | some l => some (D.int l.length)
    | none => match st[n]? with
      | some (.md _ kvs) => some (.int kvs.length)
      | _ => none) = _
  rw [asL_ref]
  cases st[n]? with
  | none => rfl
  | some o => cases o <;> rfl
@[simp] theorem bOrd_str (c : Nat) (st : St) : bOrd [.str [c]] st = some (.int c) := id rfl
@[simp] theorem blsOf_map {γ : Type} (l : List γ) (p : γ → Bool) : blsOf (l.map fun a => .bl (p a)) = some (l.map p) := by
  induction l with
  | nil => rfl
  | cons a l ih => show (blsOf (l.map fun a => .bl (p a))).map (fun bs => p a :: bs) = _; rw [ih]; rfl
@[simp] theorem bAll_map {γ : Type} (l : List γ) (p : γ → Bool) (st : St) : bAll [.lst (l.map fun a => .bl (p a))] st = some (.bl (l.all p)) := by
  show (blsOf (l.map fun a => .bl (p a))).map (fun bs => D.bl (bs.all id)) = _
  rw [blsOf_map]; simp
@[simp] theorem bAny_map {γ : Type} (l : List γ) (p : γ → Bool) (st : St) : bAny [.lst (l.map fun a => .bl (p a))] st = some (.bl (l.any p)) := by
  show (blsOf (l.map fun a => .bl (p a))).map (fun bs => D.bl (bs.any id)) = _
  rw [blsOf_map]; simp
def isi1 (ans : D → St → Option Bool) (x : D) (st : St) : RE := ofO ((ans x st).map D.bl) st
@[simp] theorem ap_isi (ans : D → St → Option Bool) (f : EM) (env : Env) (st : St) : xIsi ans f env st = (f env st).bind (isi1 ans) := id rfl
@[simp] theorem ap_isi1 (ans : D → St → Option Bool) (x : D) (st : St) : isi1 ans x st = ofO ((ans x st).map D.bl) st := id rfl
@[simp] theorem isiE_exc (sub : Nat → Option Bool) (c : Nat) (st : St) : isiE sub (.exc c) st = sub c := id rfl
def bm2 (o : Op2) (x : D) (y : D) (st : St) : RE := ofO (o x y st) st
def bm1 (ty : D → St → Bool) (o : Op2) (g : EM) (env : Env) (x : D) (st : St) : RE := if ty x st then (g env st).bind (bm2 o x) else .stuck
@[simp] theorem ap_bm (ty : D → St → Bool) (o : Op2) (f g : EM) (env : Env) (st : St) : xBm ty o f g env st = (f env st).bind (bm1 ty o g env) := id rfl
@[simp] theorem ap_bm1s (o : Op2) (g : EM) (env : Env) (s : List Nat) (st : St) : bm1 isStr o g env (.str s) st = (g env st).bind (bm2 o (.str s)) := id rfl
@[simp] theorem ap_bm1l (o : Op2) (g : EM) (env : Env) (s : List D) (st : St) : bm1 isLst o g env (.lst s) st = (g env st).bind (bm2 o (.lst s)) := id rfl
@[simp] theorem ap_bm2 (o : Op2) (x : D) (y : D) (st : St) : bm2 o x y st = ofO (o x y st) st := id rfl
@[simp] theorem oStarts_str (x y : List Nat) (st : St) : oStarts (.str x) (.str y) st = some (.bl (y.isPrefixOf x)) := id rfl
def spl2 (x : D) (y : D) (st : St) : RA := ofL (splitD x y) st
def spl1 (g : EM) (env : Env) (x : D) (st : St) : RA := if isStr x st then (g env st).bind (spl2 x) else .stuck
@[simp] theorem ap_split (f g : EM) (env : Env) (st : St) : lSplit f g env st = (f env st).bind (spl1 g env) := id rfl
@[simp] theorem ap_spl1 (g : EM) (env : Env) (s : List Nat) (st : St) : spl1 g env (.str s) st = (g env st).bind (spl2 (.str s)) := id rfl
theorem spl2_ok {s : List Nat} {c : Nat} {st : St} (h : s.length + 2 ≤ 16777216) (hc : c < 256) : spl2 (.str s) (.str [c]) st = .ok ((splitL c s).map D.str) st := by
  show ofL (if s.length + 2 ≤ LN ∧ c < 256 then _ else none) st = _
  rw [if_pos ⟨h, hc⟩]; rfl
theorem strsOf_map (l : List (List Nat)) : strsOf (l.map D.str) = some l := by
  induction l with
  | nil => rfl
  | cons a l ih => show (strsOf (l.map D.str)).map (fun ss => a :: ss) = _; rw [ih]; rfl
theorem oJoin_ok {s : List Nat} {y : D} {l : List (List Nat)} {st : St} (hy : asL st y = some (l.map D.str)) (h : (l.map List.length).sum + l.length * s.length ≤ 16777216) : oJoin (.str s) y st = some (.str (joinS s l)) := by
  unfold oJoin
  simp only [hy, strsOf_map]
  exact if_pos h
def app3 (o : Option Ob) (n : Nat) (y : D) (st : St) : RE := match o with
  | some (.ml l) => if l.length < LN then .ok .non (st.set n (.ml (l ++ [y]))) else .stuck
  | _ => .stuck
theorem app3_ok {l : List D} {n : Nat} {y : D} {st : St} (h : l.length < 16777216) : app3 (some (.ml l)) n y st = .ok .non (st.set n (.ml (l ++ [y]))) := if_pos h
def app2 (n : Nat) (y : D) (st : St) : RE := app3 st[n]? n y st
def app1 (g : EM) (env : Env) (x : D) (st : St) : RE := if isLst x st then (match x with
  | .ref n => (g env st).bind (app2 n)
  | _ => (g env st).bind fun _ _ => .stuck) else .stuck
@[simp] theorem ap_app (f g : EM) (env : Env) (st : St) : xApp f g env st = (f env st).bind (app1 g env) := by
  show (f env st).bind _ = _
  congr 1; funext x st; unfold app1
  split
  · cases x <;> rfl
  · rfl
theorem app1_ok {g : EM} {env : Env} {n : Nat} {st : St} {l : List D} (h : st[n]? = some (.ml l)) : app1 g env (.ref n) st = (g env st).bind (app2 n) := by
  unfold app1 isLst
  rw [asL_ref, h]; rfl
@[simp] theorem ap_app2 (n : Nat) (y : D) (st : St) : app2 n y st = app3 st[n]? n y st := id rfl

/-! ### statements -/
@[simp] theorem ap_skip (env : Env) (st : St) : sSkip env st = .nx env st := id rfl
@[simp] theorem ap_seq (a b : SM) (env : Env) (st : St) : sSeq a b env st = (a env st).seq b := id rfl
def set1 (i : Nat) (env : Env) (d : D) (st : St) : RS := .nx (env.set i (some d)) st
@[simp] theorem ap_set (i : Nat) (f : EM) (env : Env) (st : St) : sSet i f env st = (f env st).bindS env (set1 i env) := id rfl
@[simp] theorem ap_set1 (i : Nat) (env : Env) (d : D) (st : St) : set1 i env d st = .nx (env.set i (some d)) st := id rfl
def tgt2 (o : Option Env) (st : St) : RS := match o with
  | some env => .nx env st
  | none => .stuck
def tgt1 (t : Tg) (env : Env) (d : D) (st : St) : RS := tgt2 (t.put d env st) st
@[simp] theorem ap_tgt (t : Tg) (f : EM) (env : Env) (st : St) : sTgt t f env st = (f env st).bindS env (tgt1 t env) := id rfl
@[simp] theorem ap_tgt1 (t : Tg) (env : Env) (d : D) (st : St) : tgt1 t env d st = tgt2 (t.put d env st) st := id rfl
@[simp] theorem ap_tgt2 (env : Env) (st : St) : tgt2 (some env) st = .nx env st := id rfl
@[simp] theorem put_name (i : Nat) (d : D) (env : Env) (st : St) : (Tg.name i).put d env st = some (env.set i (some d)) := id rfl
theorem put_tup {is : List Nat} {ds : List D} {env : Env} {st : St} (h : ds.length = is.length) : (Tg.tup is).put (.tup ds) env st = some (setAll is ds env) := if_pos h
@[simp] theorem put_tup2 (i j : Nat) (d e : D) (env : Env) (st : St) : (Tg.tup [i, j]).put (.tup [d, e]) env st = some ((env.set i (some d)).set j (some e)) := id rfl
@[simp] theorem put_tup3 (i j k : Nat) (d e f : D) (env : Env) (st : St) : (Tg.tup [i, j, k]).put (.tup [d, e, f]) env st = some (((env.set i (some d)).set j (some e)).set k (some f)) := id rfl
@[simp] theorem put_tup4 (i j k l : Nat) (d e f g : D) (env : Env) (st : St) : (Tg.tup [i, j, k, l]).put (.tup [d, e, f, g]) env st = some ((((env.set i (some d)).set j (some e)).set k (some f)).set l (some g)) := id rfl
def exp1 (env : Env) (_ : D) (st : St) : RS := .nx env st
@[simp] theorem ap_expr (f : EM) (env : Env) (st : St) : sExpr f env st = (f env st).bindS env (exp1 env) := id rfl
@[simp] theorem ap_exp1 (env : Env) (d : D) (st : St) : exp1 env d st = .nx env st := id rfl
def ret1 (d : D) (st : St) : RS := .ret d st
@[simp] theorem ap_ret (f : EM) (env : Env) (st : St) : sRet f env st = (f env st).bindS env ret1 := id rfl
@[simp] theorem ap_ret1 (d : D) (st : St) : ret1 d st = .ret d st := id rfl
@[simp] theorem ap_retN (env : Env) (st : St) : sRetN env st = .ret .non st := id rfl
@[simp] theorem ap_brk (env : Env) (st : St) : sBrk env st = .brk env st := id rfl
@[simp] theorem ap_raise (c : Nat) (env : Env) (st : St) : sRaise c env st = .exn c env st := id rfl
def sif2 (a b : SM) (env : Env) (o : Option Bool) (st : St) : RS := match o with
  | some true => a env st
  | some false => b env st
  | none => .stuck
def sif1 (a b : SM) (env : Env) (x : D) (st : St) : RS := sif2 a b env (truthy st x) st
@[simp] theorem ap_sif (c : EM) (a b : SM) (env : Env) (st : St) : sIf c a b env st = (c env st).bindS env (sif1 a b env) := id rfl
@[simp] theorem ap_sif1 (a b : SM) (env : Env) (x : D) (st : St) : sif1 a b env x st = sif2 a b env (truthy st x) st := id rfl
@[simp] theorem sif2_t (a b : SM) (env : Env) (st : St) : sif2 a b env (some true) st = a env st := id rfl
@[simp] theorem sif2_f (a b : SM) (env : Env) (st : St) : sif2 a b env (some false) st = b env st := id rfl
@[simp low] theorem sif2_b (a b : SM) (env : Env) (p : Bool) (st : St) : sif2 a b env (some p) st = if p = true then a env st else b env st := by cases p <;> rfl
def stl3 (o : Option Nat) (l : List D) (n : Nat) (y : D) (env : Env) (st : St) : RS := match o with
  | some j => .nx env (st.set n (.ml (l.set j y)))
  | none => .stuck
@[simp] theorem stl3_some (j : Nat) (l : List D) (n : Nat) (y : D) (env : Env) (st : St) : stl3 (some j) l n y env st = .nx env (st.set n (.ml (l.set j y))) := id rfl
def stl2 (y x : D) (env : Env) (k : D) (st : St) : RS := match x, k with
  | .ref n, .int i => match st[n]? with
    | some (.ml l) => stl3 (ixN l.length i) l n y env st
    | _ => .stuck
  | _, _ => .stuck
def stl1 (g : EM) (y : D) (env : Env) (x : D) (st : St) : RS := (g env st).bindS env (stl2 y x env)
def stl0 (f g : EM) (env : Env) (y : D) (st : St) : RS := (f env st).bindS env (stl1 g y env)
@[simp] theorem ap_stl (f g e : EM) (env : Env) (st : St) : sSetL f g e env st = (e env st).bindS env (stl0 f g env) := id rfl
@[simp] theorem ap_stl0 (f g : EM) (env : Env) (y : D) (st : St) : stl0 f g env y st = (f env st).bindS env (stl1 g y env) := id rfl
@[simp] theorem ap_stl1 (g : EM) (y : D) (env : Env) (x : D) (st : St) : stl1 g y env x st = (g env st).bindS env (stl2 y x env) := id rfl
theorem stl2_ok {n : Nat} {i : Int} {l : List D} {y : D} {env : Env} {st : St} (h : st[n]? = some (.ml l)) : stl2 y (.ref n) env (.int i) st = stl3 (ixN l.length i) l n y env st := by
  unfold stl2; simp only [h]
def tryH (o : Option Bool) (hd : Nat → Env → St → RS) (c : Nat) (env : Env) (st : St) : RS := match o with
  | some true => hd c env st
  | some false => .exn c env st
  | none => .stuck
def tryK (takes : Nat → Option Bool) (hd : Nat → Env → St → RS) (r : RS) : RS := match r with
  | .exn c env2 st2 => tryH (takes c) hd c env2 st2
  | r => r
@[simp] theorem ap_try (b : SM) (takes : Nat → Option Bool) (hd : Nat → Env → St → RS) (env : Env) (st : St) : sTry b takes hd env st = tryK takes hd (b env st) := id rfl
section
variable (takes : Nat → Option Bool) (hd : Nat → Env → St → RS)
@[simp] theorem tryK_nx (env : Env) (st : St) : tryK takes hd (.nx env st) = .nx env st := id rfl
@[simp] theorem tryK_ret (d : D) (st : St) : tryK takes hd (.ret d st) = .ret d st := id rfl
@[simp] theorem tryK_exn (c : Nat) (env : Env) (st : St) : tryK takes hd (.exn c env st) = tryH (takes c) hd c env st := id rfl
@[simp] theorem tryK_ite {p : Prop} [Decidable p] (a b : RS) : tryK takes hd (if p then a else b) = if p then tryK takes hd a else tryK takes hd b := by split <;> rfl
@[simp] theorem tryH_t (c : Nat) (env : Env) (st : St) : tryH (some true) hd c env st = hd c env st := id rfl
@[simp] theorem tryH_f (c : Nat) (env : Env) (st : St) : tryH (some false) hd c env st = .exn c env st := id rfl
end
def hdK (i : Nat) (r : RS) : RS := match r with
  | .nx env3 st3 => .nx (env3.set i none) st3
  | .brk env3 st3 => .brk (env3.set i none) st3
  | .exn _ _ _ => .stuck
  | r => r
@[simp] theorem ap_hdAs (i : Nat) (h : SM) (c : Nat) (env : Env) (st : St) : hdAs i h c env st = hdK i (h (env.set i (some (.exc c))) st) := id rfl
@[simp] theorem hdK_nx (i : Nat) (env : Env) (st : St) : hdK i (.nx env st) = .nx (env.set i none) st := id rfl
@[simp] theorem hdK_ret (i : Nat) (d : D) (st : St) : hdK i (.ret d st) = .ret d st := id rfl
def fin (r : RS) : RE := match r with
  | .nx _ st => .ok .non st
  | .ret d st => .ok d st
  | .exn c _ st => .exn c st
  | _ => .stuck
@[simp] theorem fin_nx (env : Env) (st : St) : fin (.nx env st) = .ok .non st := id rfl
@[simp] theorem fin_ret (d : D) (st : St) : fin (.ret d st) = .ok d st := id rfl
@[simp] theorem fin_exn (c : Nat) (env : Env) (st : St) : fin (.exn c env st) = .exn c st := id rfl
@[simp] theorem fin_ite {p : Prop} [Decidable p] (a b : RS) : fin (if p then a else b) = if p then fin a else fin b := by split <;> rfl
theorem ap_body {n slots : Nat} {s : SM} {ds : List D} {st : St} (h : ds.length = n) : body n slots s ds st = fin (s (ds.map some ++ List.replicate (slots - ds.length) none) st) := if_pos h

/-! ### what is walked -/
def wk1 (o : Option Wk) (st : St) : RWk := match o with
  | some w => .ok w st
  | none => .stuck
@[simp] theorem wk1_some (w : Wk) (st : St) : wk1 (some w) st = .ok w st := id rfl
def ival1 (x : D) (st : St) : RWk := wk1 (wkOf x st) st
@[simp] theorem ap_ival (f : EM) (env : Env) (st : St) : iVal f env st = (f env st).bind ival1 := id rfl
@[simp] theorem ap_ival1 (x : D) (st : St) : ival1 x st = wk1 (wkOf x st) st := id rfl
@[simp] theorem wk_lst (l : List D) (st : St) : wkOf (.lst l) st = some (.data l) := id rfl
@[simp] theorem wk_tup (l : List D) (st : St) : wkOf (.tup l) st = some (.data l) := id rfl
theorem wk_str {s : List Nat} {st : St} (h : s.length ≤ 16777216) : wkOf (.str s) st = some (.data (s.map fun c => .str [c])) := if_pos h
def wkO (o : Option Ob) (n : Nat) : Option Wk := match o with
  | some (.ml _) => some (.obj n)
  | some (.fz l) => some (.data l)
  | _ => none
@[simp] theorem wk_ref (n : Nat) (st : St) : wkOf (.ref n) st = wkO st[n]? n := by
  show (match st[n]? with | some (.ml _) => some (Wk.obj n) | some (.fz l) => some (.data l) | _ => none) = _; rfl
@[simp] theorem wkO_ml (l : List D) (n : Nat) : wkO (some (.ml l)) n = some (.obj n) := id rfl
@[simp] theorem wkO_fz (l : List D) (n : Nat) : wkO (some (.fz l)) n = some (.data l) := id rfl
def rng1 (x : D) (st : St) : RWk := match x with
  | .int j => if -(2 ^ 62) ≤ j ∧ j < 2 ^ 62 then .ok (.data (rng 0 j.toNat)) st else .stuck
  | _ => .stuck
@[simp] theorem ap_rng1 (f : EM) (env : Env) (st : St) : iRng1 f env st = (f env st).bind rng1 := id rfl
theorem rng_map (i : Int) (n : Nat) : rng i n = (List.range n).map fun (k : Nat) => D.int (i + k) := by
  induction n generalizing i with
  | zero => rfl
  | succ n ih =>
    rw [List.range_succ_eq_map, List.map_cons, List.map_map]
    show D.int i :: rng (i + 1) n = _
    rw [ih]
    congr 1
    · simp
    · apply List.map_congr_left; intro a _; simp only [Function.comp]; congr 1; omega
theorem rng1_ok {n : Nat} {st : St} (h : n < 2 ^ 62) : rng1 (.int (n : Int)) st = .ok (.data ((List.range n).map fun (k : Nat) => D.int (k : Int))) st := by
  unfold rng1
  simp only
  rw [if_pos ⟨by omega, by omega⟩, Int.toNat_natCast, rng_map]
  simp only [Int.zero_add]

/-! ### comprehensions -/
def comp1 (t : Tg) (c : Option EM) (e : EM) (own : List Nat) (env : Env) (w : Wk) (st : St) : RA := match w with
  | .data l => cData t c e (wipe env own) l [] st
  | .obj n => cObj t c e (wipe env own) n FU 0 [] st
@[simp] theorem ap_comp (it : IM) (t : Tg) (c : Option EM) (e : EM) (own : List Nat) (env : Env) (st : St) : lComp it t c e own env st = (it env st).bind (comp1 t c e own env) := id rfl
@[simp] theorem comp1_data (t : Tg) (c : Option EM) (e : EM) (own : List Nat) (env : Env) (l : List D) (st : St) : comp1 t c e own env (.data l) st = cData t c e (wipe env own) l [] st := id rfl
@[simp] theorem comp1_obj (t : Tg) (c : Option EM) (e : EM) (own : List Nat) (env : Env) (n : Nat) (st : St) : comp1 t c e own env (.obj n) st = cObj t c e (wipe env own) n FU 0 [] st := id rfl
@[simp] theorem wipe_nil (env : Env) : wipe env [] = env := id rfl
@[simp] theorem wipe_cons (env : Env) (v : Nat) (vs : List Nat) : wipe env (v :: vs) = (wipe env vs).set v none := id rfl
/-- turns that leave the store alone -/
theorem cData_map {γ : Type} {t : Tg} {e : EM} {env : Env} {st : St} (f g : γ → D) (l : List γ) (acc : List D)
    (h : ∀ a ∈ l, ∃ env1, t.put (f a) env st = some env1 ∧ e env1 st = .ok (g a) st) (hl : acc.length + l.length ≤ 16777216) :
    cData t none e env (l.map f) acc st = .ok (acc ++ l.map g) st := by
  induction l generalizing acc with
  | nil => simp [cData]
  | cons a l ih =>
    obtain ⟨env1, h1, h2⟩ := h a List.mem_cons_self
    show (cTurn t none e env (f a) st).bind _ = _
    have ht : cTurn t none e env (f a) st = .ok (some (g a)) st := by
      unfold cTurn; rw [h1]; show (noX (e env1 st)).bind _ = _; rw [h2]; rfl
    rw [ht]
    show (if acc.length < LN then cData t none e env (l.map f) (acc ++ [g a]) st else .stuck) = _
    have hl' : acc.length + (l.length + 1) ≤ 16777216 := hl
    rw [if_pos (show acc.length < LN by show _ < 16777216; omega), ih _ (fun b hb => h b (List.mem_cons_of_mem _ hb)) (by simp; omega)]
    simp
theorem cData_filter {γ : Type} {t : Tg} {c e : EM} {env : Env} {st : St} (f g : γ → D) (p : γ → Bool) (l : List γ) (acc : List D)
    (h : ∀ a ∈ l, ∃ env1, t.put (f a) env st = some env1 ∧ (∃ x, c env1 st = .ok x st ∧ truthy st x = some (p a)) ∧ (p a = true → e env1 st = .ok (g a) st)) (hl : acc.length + l.length ≤ 16777216) :
    cData t (some c) e env (l.map f) acc st = .ok (acc ++ (l.filter p).map g) st := by
  induction l generalizing acc with
  | nil => simp [cData]
  | cons a l ih =>
    obtain ⟨env1, h1, ⟨x, h2, h3⟩, h4⟩ := h a List.mem_cons_self
    have hl' : acc.length + (l.length + 1) ≤ 16777216 := hl
    have ih' := fun acc hl => ih acc (fun b hb => h b (List.mem_cons_of_mem _ hb)) hl
    show (cTurn t (some c) e env (f a) st).bind _ = _
    cases hp : p a with
    | true =>
      have ht : cTurn t (some c) e env (f a) st = .ok (some (g a)) st := by
        unfold cTurn; rw [h1]; show (noX (c env1 st)).bind _ = _; rw [h2]
        show (match truthy st x with | some true => _ | some false => _ | none => _) = _
        rw [h3, hp]; show (noX (e env1 st)).bind _ = _; rw [h4 hp]; rfl
      rw [ht]
      show (if acc.length < LN then cData t (some c) e env (l.map f) (acc ++ [g a]) st else .stuck) = _
      rw [if_pos (show acc.length < LN by show _ < 16777216; omega), ih' _ (by simp; omega)]
      simp [hp]
    | false =>
      have ht : cTurn t (some c) e env (f a) st = .ok none st := by
        unfold cTurn; rw [h1]; show (noX (c env1 st)).bind _ = _; rw [h2]
        show (match truthy st x with | some true => _ | some false => _ | none => _) = _
        rw [h3, hp]
      rw [ht]
      show cData t (some c) e env (l.map f) acc st = _
      rw [ih' _ (by omega)]
      simp [hp]
/-- turns that change the store; I holds of the turns left, of what is gathered, of the store -/
theorem cData_inv {γ : Type} {t : Tg} {e : EM} {env : Env} (f : γ → D) (I : Nat → List D → St → Prop) (l : List γ) (acc : List D) (st : St) (i : I l.length acc st)
    (h : ∀ a ∈ l, ∀ n acc st, I (n + 1) acc st → ∃ env1 y st', t.put (f a) env st = some env1 ∧ e env1 st = .ok y st' ∧ I n (acc ++ [y]) st') (hl : acc.length + l.length ≤ 16777216) :
    ∃ acc' st', cData t none e env (l.map f) acc st = .ok acc' st' ∧ I 0 acc' st' := by
  induction l generalizing acc st with
  | nil => exact ⟨acc, st, rfl, i⟩
  | cons a l ih =>
    obtain ⟨env1, y, st', h1, h2, h3⟩ := h a List.mem_cons_self _ acc st i
    have hl' : acc.length + (l.length + 1) ≤ 16777216 := hl
    obtain ⟨acc', st'', h4, h5⟩ := ih (acc ++ [y]) st' h3 (fun b hb => h b (List.mem_cons_of_mem _ hb)) (by simp; omega)
    refine ⟨acc', st'', ?_, h5⟩
    show (cTurn t none e env (f a) st).bind _ = _
    have ht : cTurn t none e env (f a) st = .ok (some y) st' := by
      unfold cTurn; rw [h1]; show (noX (e env1 st)).bind _ = _; rw [h2]; rfl
    rw [ht]
    show (if acc.length < LN then cData t none e env (l.map f) (acc ++ [y]) st' else .stuck) = _
    rw [if_pos (show acc.length < LN by show _ < 16777216; omega)]
    exact h4
/-- a list of the store that isn't changed meanwhile -/
theorem cObj_inv {t : Tg} {e : EM} {env : Env} {n : Nat} (l : List D) (I : Nat → List D → St → Prop) (hm : ∀ k acc st, I k acc st → st[n]? = some (.ml l))
    (h : ∀ d ∈ l, ∀ k acc st, I (k + 1) acc st → ∃ env1 y st', t.put d env st = some env1 ∧ e env1 st = .ok y st' ∧ I k (acc ++ [y]) st')
    (k : Nat) (i : Nat) (acc : List D) (st : St) (hk : i + k = l.length) (hi : I k acc st) (fuel : Nat) (hf : k < fuel) (hl : acc.length + k ≤ 16777216) :
    ∃ acc' st', cObj t none e env n fuel i acc st = .ok acc' st' ∧ I 0 acc' st' := by
  induction k generalizing i acc st fuel with
  | zero =>
    obtain ⟨fuel, rfl⟩ : ∃ m, fuel = m + 1 := ⟨fuel - 1, by omega⟩
    refine ⟨acc, st, ?_, hi⟩
    unfold cObj
    rw [hm _ _ _ hi]
    have : l[i]? = none := by simp; omega
    simp only [this]
  | succ k ih =>
    obtain ⟨fuel, rfl⟩ : ∃ m, fuel = m + 1 := ⟨fuel - 1, by omega⟩
    have hd : l[i]? = some l[i] := List.getElem?_eq_getElem (by omega)
    obtain ⟨env1, y, st', h1, h2, h3⟩ := h (l[i]'(by omega)) (List.getElem_mem _) k acc st hi
    obtain ⟨acc', st'', h4, h5⟩ := ih (i + 1) (acc ++ [y]) st' (by omega) h3 fuel (by omega) (by simp; omega)
    refine ⟨acc', st'', ?_, h5⟩
    unfold cObj
    rw [hm _ _ _ hi]
    simp only [hd]
    have ht : cTurn t none e env (l[i]'(by omega)) st = .ok (some y) st' := by
      unfold cTurn; rw [h1]; show (noX (e env1 st)).bind _ = _; rw [h2]; rfl
    rw [ht]
    show (if acc.length < LN then cObj t none e env n fuel (i + 1) (acc ++ [y]) st' else .stuck) = _
    rw [if_pos (show acc.length < LN by show _ < 16777216; omega)]
    exact h4

/-- .. and turns that leave the store alone -/
theorem cObj_map {γ : Type} {t : Tg} {e : EM} {env : Env} {st : St} {n : Nat} (f g : γ → D) (l : List γ) (hm : st[n]? = some (.ml (l.map f)))
    (h : ∀ a ∈ l, ∃ env1, t.put (f a) env st = some env1 ∧ e env1 st = .ok (g a) st) (hl : l.length < 100000) :
    cObj t none e env n FU 0 [] st = .ok (l.map g) st := by
  have k : ∀ m i acc fuel, i + m = l.length → m < fuel → acc.length = i → cObj t none e env n fuel i acc st = .ok (acc ++ (l.drop i).map g) st := by
    intro m
    induction m with
    | zero =>
      intro i acc fuel hi hf ha
      obtain ⟨fuel, rfl⟩ : ∃ m, fuel = m + 1 := ⟨fuel - 1, by omega⟩
      unfold cObj
      have : (l.map f)[i]? = none := by simp; omega
      simp only [hm, this, List.drop_of_length_le (show l.length ≤ i by omega), List.map_nil, List.append_nil]
    | succ m ih =>
      intro i acc fuel hi hf ha
      obtain ⟨fuel, rfl⟩ : ∃ m, fuel = m + 1 := ⟨fuel - 1, by omega⟩
      have hil : i < l.length := by omega
      obtain ⟨env1, h1, h2⟩ := h l[i] (List.getElem_mem _)
      have hd : (l.map f)[i]? = some (f l[i]) := by simp [List.getElem?_eq_getElem hil]
      unfold cObj
      simp only [hm, hd]
      have ht : cTurn t none e env (f l[i]) st = .ok (some (g l[i])) st := by
        unfold cTurn; rw [h1]; show (noX (e env1 st)).bind _ = _; rw [h2]; rfl
      rw [ht]
      show (if acc.length < LN then cObj t none e env n fuel (i + 1) (acc ++ [g l[i]]) st else .stuck) = _
      rw [if_pos (show acc.length < LN by show _ < 16777216; omega), ih (i + 1) _ fuel (by omega) (by omega) (by simp; omega)]
      rw [List.drop_eq_getElem_cons hil, List.map_cons, List.append_assoc]; rfl
  have := k l.length 0 [] FU (by omega) (by have : FU = 100000 := rfl; omega) rfl
  simpa using this

theorem cObj_filter {γ : Type} {t : Tg} {c e : EM} {env : Env} {st : St} {n : Nat} (f g : γ → D) (p : γ → Bool) (l : List γ) (hm : st[n]? = some (.ml (l.map f)))
    (h : ∀ a ∈ l, ∃ env1, t.put (f a) env st = some env1 ∧ (∃ x, c env1 st = .ok x st ∧ truthy st x = some (p a)) ∧ (p a = true → e env1 st = .ok (g a) st)) (hl : l.length < 100000) :
    cObj t (some c) e env n FU 0 [] st = .ok ((l.filter p).map g) st := by
  have k : ∀ m i acc fuel, i + m = l.length → m < fuel → acc.length ≤ i → cObj t (some c) e env n fuel i acc st = .ok (acc ++ ((l.drop i).filter p).map g) st := by
    intro m
    induction m with
    | zero =>
      intro i acc fuel hi hf ha
      obtain ⟨fuel, rfl⟩ : ∃ m, fuel = m + 1 := ⟨fuel - 1, by omega⟩
      unfold cObj
      have : (l.map f)[i]? = none := by simp; omega
      simp only [hm, this, List.drop_of_length_le (show l.length ≤ i by omega), List.filter_nil, List.map_nil, List.append_nil]
    | succ m ih =>
      intro i acc fuel hi hf ha
      obtain ⟨fuel, rfl⟩ : ∃ m, fuel = m + 1 := ⟨fuel - 1, by omega⟩
      have hil : i < l.length := by omega
      obtain ⟨env1, h1, ⟨x, h2, h3⟩, h4⟩ := h l[i] (List.getElem_mem _)
      have hd : (l.map f)[i]? = some (f l[i]) := by simp [List.getElem?_eq_getElem hil]
      unfold cObj
      simp only [hm, hd]
      rw [List.drop_eq_getElem_cons hil]
      cases hp : p l[i] with
      | true =>
        have ht : cTurn t (some c) e env (f l[i]) st = .ok (some (g l[i])) st := by
          unfold cTurn; rw [h1]; show (noX (c env1 st)).bind _ = _; rw [h2]
          show (match truthy st x with | some true => _ | some false => _ | none => _) = _
          rw [h3, hp]; show (noX (e env1 st)).bind _ = _; rw [h4 hp]; rfl
        rw [ht]
        show (if acc.length < LN then cObj t (some c) e env n fuel (i + 1) (acc ++ [g l[i]]) st else .stuck) = _
        rw [if_pos (show acc.length < LN by show _ < 16777216; omega), ih (i + 1) _ fuel (by omega) (by omega) (by simp; omega), List.filter_cons_of_pos hp, List.map_cons, List.append_assoc]
        rfl
      | false =>
        have ht : cTurn t (some c) e env (f l[i]) st = .ok none st := by
          unfold cTurn; rw [h1]; show (noX (c env1 st)).bind _ = _; rw [h2]
          show (match truthy st x with | some true => _ | some false => _ | none => _) = _
          rw [h3, hp]
        rw [ht]
        show cObj t (some c) e env n fuel (i + 1) acc st = _
        rw [ih (i + 1) _ fuel (by omega) (by omega) (by omega), List.filter_cons_of_neg (by rw [hp]; decide)]
  have := k l.length 0 [] FU (by omega) (by have : FU = 100000 := rfl; omega) (Nat.le_refl _)
  simpa using this

/-! ### for -/
def for1 (t : Tg) (b : SM) (env : Env) (w : Wk) (st : St) : RS := match w with
  | .data l => fData t b l env st
  | .obj n => fObj t b n FU 0 env st
@[simp] theorem ap_for (it : IM) (t : Tg) (b : SM) (env : Env) (st : St) : sFor it t b env st = (it env st).bindS env (for1 t b env) := id rfl
@[simp] theorem for1_data (t : Tg) (b : SM) (env : Env) (l : List D) (st : St) : for1 t b env (.data l) st = fData t b l env st := id rfl
@[simp] theorem for1_obj (t : Tg) (b : SM) (env : Env) (n : Nat) (st : St) : for1 t b env (.obj n) st = fObj t b n FU 0 env st := id rfl
/-- every turn goes on -/
theorem fData_inv {γ : Type} {t : Tg} {b : SM} (f : γ → D) (I : Nat → Env → St → Prop) (l : List γ) (env : Env) (st : St) (i : I l.length env st)
    (h : ∀ a ∈ l, ∀ n env st, I (n + 1) env st → ∃ env1 env2 st', t.put (f a) env st = some env1 ∧ b env1 st = .nx env2 st' ∧ I n env2 st') :
    ∃ env' st', fData t b (l.map f) env st = .nx env' st' ∧ I 0 env' st' := by
  induction l generalizing env st with
  | nil => exact ⟨env, st, rfl, i⟩
  | cons a l ih =>
    obtain ⟨env1, env2, st', h1, h2, h3⟩ := h a List.mem_cons_self _ env st i
    obtain ⟨env', st'', h4, h5⟩ := ih env2 st' h3 fun b hb => h b (List.mem_cons_of_mem _ hb)
    refine ⟨env', st'', ?_, h5⟩
    show (match t.put (f a) env st with | none => RS.stuck | some env1 => _) = _
    rw [h1]
    show (match b env1 st with | .nx env2 st2 => fData t b (l.map f) env2 st2 | .brk env2 st2 => .nx env2 st2 | r => r) = _
    rw [h2]
    exact h4

/-- .. told by what is left -/
theorem fData_rem {γ : Type} {t : Tg} {b : SM} (f : γ → D) (I : List γ → Env → St → Prop)
    (h : ∀ a r env st, I (a :: r) env st → ∃ env1 env2 st', t.put (f a) env st = some env1 ∧ b env1 st = .nx env2 st' ∧ I r env2 st') :
    ∀ (l : List γ) (env : Env) (st : St), I l env st → ∃ env' st', fData t b (l.map f) env st = .nx env' st' ∧ I [] env' st'
  | [], env, st, i => ⟨env, st, rfl, i⟩
  | a :: l, env, st, i => by
    obtain ⟨env1, env2, st', h1, h2, h3⟩ := h a l env st i
    obtain ⟨env', st'', h4, h5⟩ := fData_rem f I h l env2 st' h3
    refine ⟨env', st'', ?_, h5⟩
    show (match t.put (f a) env st with | none => RS.stuck | some env1 => _) = _
    rw [h1]
    show (match b env1 st with | .nx env2 st2 => fData t b (l.map f) env2 st2 | .brk env2 st2 => .nx env2 st2 | r => r) = _
    rw [h2]
    exact h4
theorem fData_nil (t : Tg) (b : SM) (env : Env) (st : St) : fData t b [] env st = .nx env st := rfl
theorem fData_nx {t : Tg} {b : SM} {d : D} {ds : List D} {env env1 env2 : Env} {st st' : St} (h1 : t.put d env st = some env1) (h2 : b env1 st = .nx env2 st') : fData t b (d :: ds) env st = fData t b ds env2 st' := by
  show (match t.put d env st with | none => RS.stuck | some env1 => _) = _
  rw [h1]
  show (match b env1 st with | .nx env2 st2 => fData t b ds env2 st2 | .brk env2 st2 => .nx env2 st2 | r => r) = _
  rw [h2]
/-- a list some times over -/
def rep3 (o : Option (List D)) (y : D) (st : St) : RA := match o, y with
  | some a, .int k => if 0 ≤ k ∧ k ≤ 1000 ∧ a.length ≤ 1000 then .ok (List.replicate k.toNat a).flatten st else .stuck
  | _, _ => .stuck
def rep2 (x y : D) (st : St) : RA := rep3 (asL st x) y st
def rep1 (g : EM) (env : Env) (x : D) (st : St) : RA := (g env st).bind (rep2 x)
@[simp] theorem ap_rep (f g : EM) (env : Env) (st : St) : lRep f g env st = (f env st).bind (rep1 g env) := by
  show (f env st).bind _ = _
  congr 1
@[simp] theorem ap_rep1 (g : EM) (env : Env) (x : D) (st : St) : rep1 g env x st = (g env st).bind (rep2 x) := id rfl
@[simp] theorem ap_rep2 (x y : D) (st : St) : rep2 x y st = rep3 (asL st x) y st := id rfl
theorem rep3_ok {a : List D} {k : Int} {st : St} (h : 0 ≤ k ∧ k ≤ 1000 ∧ a.length ≤ 1000) : rep3 (some a) (.int k) st = .ok (List.replicate k.toNat a).flatten st := if_pos h
@[simp] theorem oIs_bb (a b : Bool) (st : St) : oIs (.bl a) (.bl b) st = some (.bl (a == b)) := id rfl
@[simp] theorem oIsNot_bb (a b : Bool) (st : St) : oIsNot (.bl a) (.bl b) st = some (.bl (!(a == b))) := id rfl

/-! ### split, join -/
theorem splitL_ne (c : Nat) (s : List Nat) : splitL c s ≠ [] := by
  induction s with
  | nil => simp [splitL]
  | cons a s ih =>
    unfold splitL
    split
    · simp
    · cases h : splitL c s with
      | nil => exact absurd h ih
      | cons p ps => simp
theorem splitL_cons (c a : Nat) (s : List Nat) (h : a ≠ c) : ∃ p ps, splitL c s = p :: ps ∧ splitL c (a :: s) = (a :: p) :: ps := by
  cases hs : splitL c s with
  | nil => exact absurd hs (splitL_ne c s)
  | cons p ps => exact ⟨p, ps, rfl, by rw [splitL, if_neg h, hs]⟩
theorem splitL_same (c : Nat) (s : List Nat) : splitL c (c :: s) = [] :: splitL c s := by rw [splitL, if_pos rfl]
theorem splitL_not (c : Nat) (s : List Nat) : ∀ p ∈ splitL c s, c ∉ p := by
  induction s with
  | nil => intro p hp; simp [splitL] at hp; simp [hp]
  | cons a s ih =>
    by_cases h : a = c
    · subst h; rw [splitL_same]
      intro p hp
      rcases List.mem_cons.mp hp with rfl | hp
      · simp
      · exact ih p hp
    · obtain ⟨q, qs, h1, h2⟩ := splitL_cons c a s h
      rw [h2]; rw [h1] at ih
      intro p hp
      rcases List.mem_cons.mp hp with rfl | hp
      · intro hc
        rcases List.mem_cons.mp hc with e | hc
        · exact h e.symm
        · exact ih q List.mem_cons_self hc
      · exact ih p (List.mem_cons_of_mem _ hp)
theorem splitL_sub (c : Nat) (s : List Nat) : ∀ p ∈ splitL c s, ∀ x ∈ p, x ∈ s := by
  induction s with
  | nil => intro p hp; simp [splitL] at hp; simp [hp]
  | cons a s ih =>
    by_cases h : a = c
    · subst h; rw [splitL_same]
      intro p hp
      rcases List.mem_cons.mp hp with rfl | hp
      · simp
      · intro x hx; exact List.mem_cons_of_mem _ (ih p hp x hx)
    · obtain ⟨q, qs, h1, h2⟩ := splitL_cons c a s h
      rw [h2]; rw [h1] at ih
      intro p hp x hx
      rcases List.mem_cons.mp hp with rfl | hp
      · rcases List.mem_cons.mp hx with rfl | hx
        · exact List.mem_cons_self
        · exact List.mem_cons_of_mem _ (ih q List.mem_cons_self x hx)
      · exact List.mem_cons_of_mem _ (ih p (List.mem_cons_of_mem _ hp) x hx)
theorem splitL_len (c : Nat) (s : List Nat) : (splitL c s).length ≤ s.length + 1 ∧ ∀ p ∈ splitL c s, p.length ≤ s.length := by
  induction s with
  | nil => simp [splitL]
  | cons a s ih =>
    by_cases h : a = c
    · subst h; rw [splitL_same]
      refine ⟨by simp; exact ih.1, fun p hp => ?_⟩
      rcases List.mem_cons.mp hp with rfl | hp
      · simp
      · have := ih.2 p hp; simp; omega
    · obtain ⟨q, qs, h1, h2⟩ := splitL_cons c a s h
      rw [h2]; rw [h1] at ih
      refine ⟨by have := ih.1; simp at this ⊢; omega, fun p hp => ?_⟩
      rcases List.mem_cons.mp hp with rfl | hp
      · have := ih.2 q List.mem_cons_self; simp; omega
      · have := ih.2 p (List.mem_cons_of_mem _ hp); simp; omega
/-- joined and split again -/
theorem joinS_cons (s : List Nat) (p q : List Nat) (r : List (List Nat)) : joinS s (p :: q :: r) = p ++ (s ++ joinS s (q :: r)) := rfl
theorem splitL_app (c : Nat) (p : List Nat) (hp : c ∉ p) (s : List Nat) : ∃ q qs, splitL c s = q :: qs ∧ splitL c (p ++ s) = (p ++ q) :: qs := by
  induction p with
  | nil =>
    cases hs : splitL c s with
    | nil => exact absurd hs (splitL_ne c s)
    | cons q qs => exact ⟨q, qs, rfl, hs⟩
  | cons a p ih =>
    obtain ⟨q, qs, h1, h2⟩ := ih fun h => hp (List.mem_cons_of_mem _ h)
    obtain ⟨q', qs', h3, h4⟩ := splitL_cons c a (p ++ s) fun e => hp (e ▸ List.mem_cons_self)
    rw [h2] at h3
    cases h3
    exact ⟨q, qs, h1, h4⟩
theorem split_join (c : Nat) (l : List (List Nat)) (hl : l ≠ []) (h : ∀ p ∈ l, c ∉ p) : splitL c (joinS [c] l) = l := by
  induction l with
  | nil => exact absurd rfl hl
  | cons p l ih =>
    cases l with
    | nil =>
      show splitL c p = [p]
      obtain ⟨q, qs, h1, h2⟩ := splitL_app c p (h p List.mem_cons_self) []
      cases h1
      simpa using h2
    | cons q r =>
      rw [joinS_cons]
      obtain ⟨q', qs', h1, h2⟩ := splitL_app c p (h p List.mem_cons_self) ([c] ++ joinS [c] (q :: r))
      rw [h2]
      rw [show [c] ++ joinS [c] (q :: r) = c :: joinS [c] (q :: r) from rfl, splitL_same, ih (by simp) fun p hp => h p (List.mem_cons_of_mem _ hp)] at h1
      cases h1
      simp
theorem joinS_len (s : List Nat) (l : List (List Nat)) (m : Nat) (h : ∀ p ∈ l, p.length ≤ m) : (joinS s l).length ≤ l.length * (m + s.length) := by
  induction l with
  | nil => simp [joinS]
  | cons p l ih =>
    cases l with
    | nil => have := h p List.mem_cons_self; simp [joinS]; omega
    | cons q r =>
      rw [joinS_cons]
      have h1 := h p List.mem_cons_self
      have h2 := ih fun p hp => h p (List.mem_cons_of_mem _ hp)
      simp only [List.length_append, List.length_cons] at h2 ⊢
      rw [Nat.add_mul (r.length + 1) 1]
      omega
theorem sum_len (l : List (List Nat)) (m : Nat) (h : ∀ p ∈ l, p.length ≤ m) : (l.map List.length).sum ≤ l.length * m := by
  induction l with
  | nil => simp
  | cons p l ih =>
    have h1 := h p List.mem_cons_self
    have h2 := ih fun p hp => h p (List.mem_cons_of_mem _ hp)
    simp only [List.map_cons, List.sum_cons, List.length_cons, Nat.add_mul]
    omega
/-- lengths bounded, items bounded -/
theorem oJoin_le {s : List Nat} {y : D} {l : List (List Nat)} {st : St} (n m : Nat) (hy : asL st y = some (l.map D.str)) (hn : l.length ≤ n) (hm : ∀ p ∈ l, p.length ≤ m) (h : n * m + n * s.length ≤ 16777216) : oJoin (.str s) y st = some (.str (joinS s l)) :=
  oJoin_ok hy (by
    have h1 := sum_len l m hm
    have h2 : l.length * m ≤ n * m := Nat.mul_le_mul_right _ hn
    have h3 : l.length * s.length ≤ n * s.length := Nat.mul_le_mul_right _ hn
    omega)
theorem eqvL_strs (a b : List (List Nat)) : D.eqvL (a.map D.str) (b.map D.str) = (a == b) := by
  induction a generalizing b with
  | nil => cases b <;> rfl
  | cons x a ih =>
    cases b with
    | nil => rfl
    | cons y b =>
      show ((x == y) && D.eqvL (a.map D.str) (b.map D.str)) = _
      rw [ih]; rfl
theorem oEq_strs {a b : List (List Nat)} {st : St} (ha : ∀ p ∈ a, ∀ c ∈ p, c < 55296) (hb : ∀ p ∈ b, ∀ c ∈ p, c < 55296) : oEq (.lst (a.map D.str)) (.lst (b.map D.str)) st = some (.bl (a == b)) := by
  have k : ∀ a : List (List Nat), (∀ p ∈ a, ∀ c ∈ p, c < 55296) → (D.lst (a.map D.str)).pu 20 = true := fun a ha => by
    simp only [D.pu, List.all_eq_true, List.mem_map, forall_exists_index, and_imp, decide_eq_true_eq]
    rintro _ p hp rfl
    simp only [D.pu, List.all_eq_true, decide_eq_true_eq]
    exact ha p hp
  show (eqD (.lst (a.map D.str)) (.lst (b.map D.str))).map D.bl = _
  rw [oEq_pu (st := st) (k a ha) (k b hb)]
  show some (D.bl (D.eqvL _ _)) = _
  rw [eqvL_strs]
theorem oNe_of {x y : D} {b : Bool} {st : St} (h : oEq x y st = some (.bl b)) : oNe x y st = some (.bl (!b)) := by
  unfold oEq at h; unfold oNe
  cases e : eqD (asD st x) (asD st y) with
  | none => rw [e] at h; cases h
  | some c => rw [e] at h; cases h; rfl

/-! ### equal to itself -/
theorem eqv_refl : ∀ (k : Nat) (d : D), d.pu k = true → d.eqv d = true
  | k, .non, _ => rfl
  | k, .bl b, _ => by show (b == b) = true; simp
  | k, .int i, _ => by show (i == i) = true; simp
  | k, .str s, _ => by show (s == s) = true; simp
  | 0, .tup l, h => by cases h
  | 0, .lst l, h => by cases h
  | k + 1, .tup l, h => by
    have h : l.all (D.pu k) = true := h
    show D.eqvL l l = true
    have : ∀ l : List D, l.all (D.pu k) = true → D.eqvL l l = true := by
      intro l
      induction l with
      | nil => intro _; rfl
      | cons d l ih =>
        intro h
        rw [List.all_cons, Bool.and_eq_true] at h
        show (d.eqv d && D.eqvL l l) = true
        rw [eqv_refl k d h.1, ih h.2]; rfl
    exact this l h
  | k + 1, .lst l, h => by
    have h : l.all (D.pu k) = true := h
    show D.eqvL l l = true
    have : ∀ l : List D, l.all (D.pu k) = true → D.eqvL l l = true := by
      intro l
      induction l with
      | nil => intro _; rfl
      | cons d l ih =>
        intro h
        rw [List.all_cons, Bool.and_eq_true] at h
        show (d.eqv d && D.eqvL l l) = true
        rw [eqv_refl k d h.1, ih h.2]; rfl
    exact this l h
  | k, .ref n, h => by cases k <;> cases h
  | k, .exc n, h => by cases k <;> cases h
theorem asD_pu {d : D} {st : St} (h : d.pu 20 = true) : asD st d = d := by
  cases d with
  | ref n => cases h
  | _ => rfl
theorem oEq_refl {d : D} {st : St} (h : d.pu 20 = true) : oEq d d st = some (.bl true) := by
  show (eqD (asD st d) (asD st d)).map D.bl = _
  rw [asD_pu h, oEq_pu (st := st) h h, eqv_refl 20 d h]; rfl

/-! ### instances -/
def fld2 (nf : Nat) (ok : Nat → Bool) (f : Nat) (o : Option Ob) (st : St) : RE := match o with
  | some (.ins c fs) => if ok c && fok nf fs then ofO (fget f fs) st else .stuck
  | _ => .stuck
def fld1 (nf : Nat) (ok : Nat → Bool) (f : Nat) (x : D) (st : St) : RE := match x with
  | .ref n => fld2 nf ok f st[n]? st
  | _ => .stuck
@[simp] theorem ap_fld (nf : Nat) (ok : Nat → Bool) (f : Nat) (g : EM) (env : Env) (st : St) : xFld nf ok f g env st = (g env st).bind (fld1 nf ok f) := by
  show (g env st).bind _ = _
  congr 1
@[simp] theorem ap_fld1 (nf : Nat) (ok : Nat → Bool) (f : Nat) (n : Nat) (st : St) : fld1 nf ok f (.ref n) st = fld2 nf ok f st[n]? st := id rfl
@[simp] theorem ap_fld2 (nf : Nat) (ok : Nat → Bool) (f c : Nat) (fs : List (Nat × D)) (st : St) : fld2 nf ok f (some (.ins c fs)) st = if (ok c && fok nf fs) = true then ofO (fget f fs) st else .stuck := id rfl
def fls2 (nf : Nat) (ok : Nat → Bool) (f : Nat) (y : D) (o : Option Ob) (n : Nat) (env : Env) (st : St) : RS := match o with
  | some (.ins c fs) => if ok c && fok nf fs && decide (fs.length < 900) then .nx env (st.set n (.ins c (fput f y fs))) else .stuck
  | _ => .stuck
def fls1 (nf : Nat) (ok : Nat → Bool) (f : Nat) (y : D) (env : Env) (x : D) (st : St) : RS := match x with
  | .ref n => fls2 nf ok f y st[n]? n env st
  | _ => .stuck
def fls0 (nf : Nat) (ok : Nat → Bool) (f : Nat) (g : EM) (env : Env) (y : D) (st : St) : RS := (g env st).bindS env (fls1 nf ok f y env)
@[simp] theorem ap_fls (nf : Nat) (ok : Nat → Bool) (f : Nat) (g e : EM) (env : Env) (st : St) : sFld nf ok f g e env st = (e env st).bindS env (fls0 nf ok f g env) := by
  show (e env st).bindS env _ = _
  congr 1
@[simp] theorem ap_fls0 (nf : Nat) (ok : Nat → Bool) (f : Nat) (g : EM) (env : Env) (y : D) (st : St) : fls0 nf ok f g env y st = (g env st).bindS env (fls1 nf ok f y env) := id rfl
@[simp] theorem ap_fls1 (nf : Nat) (ok : Nat → Bool) (f : Nat) (y : D) (env : Env) (n : Nat) (st : St) : fls1 nf ok f y env (.ref n) st = fls2 nf ok f y st[n]? n env st := id rfl
@[simp] theorem ap_fls2 (nf : Nat) (ok : Nat → Bool) (f : Nat) (y : D) (c : Nat) (fs : List (Nat × D)) (n : Nat) (env : Env) (st : St) :
    fls2 nf ok f y (some (.ins c fs)) n env st = if (ok c && fok nf fs && decide (fs.length < 900)) = true then .nx env (st.set n (.ins c (fput f y fs))) else .stuck := id rfl
def mak2 (n : Nat) (d : D) (st : St) : RE := match d with
  | .non => .ok (.ref n) st
  | _ => .stuck
def mak1 (c : Calls) (cl fi : Nat) (ds : List D) (st : St) : RE := (c fi (.ref st.length :: ds) (st ++ [.ins cl []])).bind (mak2 st.length)
@[simp] theorem ap_make (c : Calls) (cl fi : Nat) (a : AM) (env : Env) (st : St) : xMake c cl fi a env st = (a env st).bind (mak1 c cl fi) := by
  show (a env st).bind _ = _
  congr 1
@[simp] theorem ap_mak1 (c : Calls) (cl fi : Nat) (ds : List D) (st : St) : mak1 c cl fi ds st = (c fi (.ref st.length :: ds) (st ++ [.ins cl []])).bind (mak2 st.length) := id rfl
@[simp] theorem ap_mak2 (n : Nat) (st : St) : mak2 n .non st = .ok (.ref n) st := id rfl
def mth4 (c : Calls) (fi n : Nat) (ds : List D) (st : St) : RE := c fi (.ref n :: ds) st
def mth3 (c : Calls) (nf : Nat) (a : AM) (env : Env) (n : Nat) (fs : List (Nat × D)) (o : Option Nat) (st : St) : RE := match o with
  | some fi => if fok nf fs then (a env st).bind (mth4 c fi n) else .stuck
  | none => .stuck
def mth2 (c : Calls) (mt : Nat → Option Nat) (nf : Nat) (a : AM) (env : Env) (n : Nat) (o : Option Ob) (st : St) : RE := match o with
  | some (.ins cl fs) => mth3 c nf a env n fs (mt cl) st
  | _ => .stuck
def mth1 (c : Calls) (mt : Nat → Option Nat) (nf : Nat) (a : AM) (env : Env) (x : D) (st : St) : RE := match x with
  | .ref n => mth2 c mt nf a env n st[n]? st
  | _ => .stuck
@[simp] theorem ap_meth (c : Calls) (mt : Nat → Option Nat) (nf : Nat) (g : EM) (a : AM) (env : Env) (st : St) : xMeth c mt nf g a env st = (g env st).bind (mth1 c mt nf a env) := by
  show (g env st).bind _ = _
  congr 1
@[simp] theorem ap_mth1 (c : Calls) (mt : Nat → Option Nat) (nf : Nat) (a : AM) (env : Env) (n : Nat) (st : St) : mth1 c mt nf a env (.ref n) st = mth2 c mt nf a env n st[n]? st := id rfl
@[simp] theorem ap_mth2 (c : Calls) (mt : Nat → Option Nat) (nf : Nat) (a : AM) (env : Env) (n cl : Nat) (fs : List (Nat × D)) (st : St) : mth2 c mt nf a env n (some (.ins cl fs)) st = mth3 c nf a env n fs (mt cl) st := id rfl
@[simp] theorem ap_mth3 (c : Calls) (nf : Nat) (a : AM) (env : Env) (n fi : Nat) (fs : List (Nat × D)) (st : St) : mth3 c nf a env n fs (some fi) st = if fok nf fs = true then (a env st).bind (mth4 c fi n) else .stuck := id rfl
@[simp] theorem ap_mth4 (c : Calls) (fi n : Nat) (ds : List D) (st : St) : mth4 c fi n ds st = c fi (.ref n :: ds) st := id rfl
def rem3 (o : Option Ob) (n : Nat) (k : Int) (st : St) : RE := match o with
  | some (.ml l) => match intsOf l with
    | some is => if is.contains k then .ok .non (st.set n (.ml ((is.erase k).map D.int))) else .stuck
    | none => .stuck
  | _ => .stuck
theorem intsOf_map : ∀ is : List Int, intsOf (is.map D.int) = some is
  | [] => rfl
  | i :: is => by show (intsOf (is.map D.int)).map (fun is => i :: is) = _; rw [intsOf_map is]; rfl
theorem rem3_ok {is : List Int} {n : Nat} {k : Int} {st : St} (h : is.contains k = true) : rem3 (some (.ml (is.map D.int))) n k st = .ok .non (st.set n (.ml ((is.erase k).map D.int))) := by
  unfold rem3
  simp only [intsOf_map, if_pos h]
def rem2 (n : Nat) (y : D) (st : St) : RE := match y with
  | .int k => rem3 st[n]? n k st
  | _ => .stuck
def rem1 (g : EM) (env : Env) (x : D) (st : St) : RE := if isLst x st then (match x with
  | .ref n => (g env st).bind (rem2 n)
  | _ => (g env st).bind fun _ _ => .stuck) else .stuck
@[simp] theorem ap_rem (f g : EM) (env : Env) (st : St) : xRem f g env st = (f env st).bind (rem1 g env) := by
  show (f env st).bind _ = _
  congr 1; funext x st; unfold rem1
  split
  · cases x with
    | ref n =>
      simp only
      congr 1; funext y st
      cases y <;> rfl
    | _ => rfl
  · rfl
theorem rem1_ok {g : EM} {env : Env} {n : Nat} {st : St} {l : List D} (h : st[n]? = some (.ml l)) : rem1 g env (.ref n) st = (g env st).bind (rem2 n) := by
  unfold rem1 isLst
  rw [asL_ref, h]; rfl
@[simp] theorem ap_rem2 (n : Nat) (k : Int) (st : St) : rem2 n (.int k) st = rem3 st[n]? n k st := id rfl

/-! ### what holds behind -/
/-- it goes on, and Q -/
def NxQ (r : RS) (Q : Env → St → Prop) : Prop := ∃ e s, r = .nx e s ∧ Q e s
/-- it comes to a value, and Q -/
def OkQ (r : RR α) (Q : α → St → Prop) : Prop := ∃ a s, r = .ok a s ∧ Q a s
@[simp] theorem NxQ_nx (e : Env) (s : St) (Q : Env → St → Prop) : NxQ (.nx e s) Q = Q e s := propext ⟨fun ⟨_, _, h, q⟩ => by cases h; exact q, fun q => ⟨_, _, rfl, q⟩⟩
@[simp] theorem OkQ_ok (a : α) (s : St) (Q : α → St → Prop) : OkQ (.ok a s) Q = Q a s := propext ⟨fun ⟨_, _, h, q⟩ => by cases h; exact q, fun q => ⟨_, _, rfl, q⟩⟩
@[simp] theorem NxQ_ite {p : Prop} [Decidable p] (a b : RS) (Q : Env → St → Prop) : NxQ (if p then a else b) Q = if p then NxQ a Q else NxQ b Q := by split <;> rfl
@[simp] theorem OkQ_ite {p : Prop} [Decidable p] (a b : RR α) (Q : α → St → Prop) : OkQ (if p then a else b) Q = if p then OkQ a Q else OkQ b Q := by split <;> rfl
theorem NxQ.mono {r : RS} {Q Q' : Env → St → Prop} (h : NxQ r Q) (i : ∀ e s, Q e s → Q' e s) : NxQ r Q' := h.imp fun _ h => h.imp fun _ h => ⟨h.1, i _ _ h.2⟩
theorem OkQ.mono {r : RR α} {Q Q' : α → St → Prop} (h : OkQ r Q) (i : ∀ e s, Q e s → Q' e s) : OkQ r Q' := h.imp fun _ h => h.imp fun _ h => ⟨h.1, i _ _ h.2⟩
theorem NxQ.seq {r : RS} {Q Q' : Env → St → Prop} {k : Env → St → RS} (h : NxQ r Q) (i : ∀ e s, Q e s → NxQ (k e s) Q') : NxQ (r.seq k) Q' := by
  obtain ⟨e, s, rfl, q⟩ := h
  exact i e s q
/-- .. and a def's end -/
theorem NxQ.fin {r : RS} {Q : Env → St → Prop} {Q' : D → St → Prop} {k : Env → St → RS} (h : NxQ r Q) (i : ∀ e s, Q e s → OkQ (TH.Q.fin (k e s)) Q') : OkQ (TH.Q.fin (r.seq k)) Q' := by
  obtain ⟨e, s, rfl, q⟩ := h
  exact i e s q
theorem OkQ.bind {r : RR α} {Q : α → St → Prop} {Q' : β → St → Prop} {k : α → St → RR β} (h : OkQ r Q) (i : ∀ e s, Q e s → OkQ (k e s) Q') : OkQ (r.bind k) Q' := by
  obtain ⟨e, s, rfl, q⟩ := h
  exact i e s q
theorem OkQ.bindS {r : RR α} {env : Env} {Q : α → St → Prop} {Q' : Env → St → Prop} {k : α → St → RS} (h : OkQ r Q) (i : ∀ e s, Q e s → NxQ (k e s) Q') : NxQ (r.bindS env k) Q' := by
  obtain ⟨e, s, rfl, q⟩ := h
  exact i e s q
end TH.Q
end
section
set_option linter.all false
set_option autoImplicit false
/-! TH10: the laws' own small functions (drawing, levels), each proved once. Plain Lean. -/
namespace TH.Q
open TH
abbrev FF := List D → St → RE
def scr (ns : List Int) : D := .lst (ns.map D.int)
/-- the town: its first object counts the drawings -/
def S (t : Nat) (rest : St) : St := .ml (List.replicate t (.int 0)) :: rest
theorem S_get (t : Nat) (rest : St) : (S t rest)[0]? = some (.ml (List.replicate t (.int 0))) := rfl
theorem S_set (t : Nat) (rest : St) : (S t rest).set 0 (.ml (List.replicate t (.int 0) ++ [.int 0])) = S (t + 1) rest := by
  show Ob.ml _ :: rest = _
  unfold S; rw [List.replicate_succ']

@[simp] theorem S_get0 (t : Nat) (rest : St) : (S t rest)[0]? = some (.ml (List.replicate t (.int 0))) := id rfl
@[simp high] theorem S_getS (t n : Nat) (rest : St) : (S t rest)[n + 1]? = rest[n]? := id rfl
@[simp high] theorem S_get1 (t : Nat) (rest : St) : (S t rest)[1]? = rest[0]? := id rfl
@[simp high] theorem S_get2 (t : Nat) (rest : St) : (S t rest)[2]? = rest[1]? := id rfl
@[simp high] theorem S_get3 (t : Nat) (rest : St) : (S t rest)[3]? = rest[2]? := id rfl
@[simp high] theorem S_get4 (t : Nat) (rest : St) : (S t rest)[4]? = rest[3]? := id rfl
@[simp] theorem S_len (t : Nat) (rest : St) : (S t rest).length = rest.length + 1 := id rfl
@[simp] theorem S_app (t : Nat) (rest x : St) : S t rest ++ x = S t (rest ++ x) := id rfl
@[simp] theorem S_setS (t n : Nat) (rest : St) (o : Ob) : (S t rest).set (n + 1) o = S t (rest.set n o) := id rfl
theorem S_new : ([.ml []] : St) = S 0 [] := rfl
/-! ### drawing -/
def gCell : SM := sSeq (sIf (xVar 0) (sRet (xBin oIx (xVar 0) (xBin oMod (xVar 1) (xB bLen (aCons (xVar 0) (aNil)))))) (sSkip))
    (sRet (xC (.int 0)))
def gMix (c : Calls) (i : Nat) : SM := sSeq (sSet 2 (xBin oMod (xBin oAdd (xCall c i (aCons (xVar 0) (aCons (xVar 1) (aNil)))) (xBin oMul (xC (.int 104729)) (xBin oAdd (xVar 1) (xC (.int 1))))) (xC (.int 4294967291))))
    (sSeq (sSet 2 (xBin oMod (xBin oPow (xVar 2) (xC (.int 5))) (xC (.int 4294967279))))
    (sRet (xBin oMod (xBin oAdd (xBin oMul (xBin oDiv (xVar 2) (xC (.int 64))) (xC (.int 69621))) (xVar 2)) (xC (.int 4294967231)))))
def gDraw (c : Calls) (i : Nat) : SM := sSeq (sExpr (xApp (xVar 1) (xC (.int 0))))
    (sRet (xBin oMod (xBin oDiv (xCall c i (aCons (xVar 0) (aCons (xB bLen (aCons (xVar 1) (aNil))) (aNil)))) (xC (.int 8))) (xVar 2)))
def gPick (c : Calls) (i : Nat) : SM := sRet (xBin oIx (xVar 2) (xCall c i (aCons (xVar 0) (aCons (xVar 1) (aCons (xB bLen (aCons (xVar 2) (aNil))) (aNil))))))

def CellF (F : FF) (ns : List Int) : Prop := ∀ (k : Nat) (st : St), ∃ i : Int, F [scr ns, .int k] st = .ok (.int i) st
def MixF (F : FF) (ns : List Int) : Prop := ∀ (k : Nat) (st : St), ∃ m : Nat, F [scr ns, .int k] st = .ok (.int m) st
def DrawF (F : FF) (ns : List Int) : Prop := ∀ (t : Nat) (rest : St) (many : Nat), t < 10000000 → 0 < many → ∃ r : Nat, r < many ∧ F [scr ns, .ref 0, .int many] (S t rest) = .ok (.int r) (S (t + 1) rest)
structure PickF (F : FF) (ns : List Int) : Prop where
  lst : ∀ (t : Nat) (rest : St) (l : List D), t < 10000000 → l ≠ [] → ∃ d ∈ l, F [scr ns, .ref 0, .lst l] (S t rest) = .ok d (S (t + 1) rest)
  str : ∀ (t : Nat) (rest : St) (s : List Nat), t < 10000000 → s ≠ [] → s.length ≤ 16777216 → ∃ d ∈ s, F [scr ns, .ref 0, .str s] (S t rest) = .ok (.str [d]) (S (t + 1) rest)
  ref : ∀ (t : Nat) (rest : St) (n : Nat) (l : List D), t < 10000000 → l ≠ [] → asO rest[n]? = some l → ∃ d ∈ l, F [scr ns, .ref 0, .ref (n + 1)] (S t rest) = .ok d (S (t + 1) rest)

theorem g_cell (ns : List Int) : CellF (body 2 2 gCell) ns := by
  intro k st
  rw [ap_body (by rfl)]
  unfold gCell scr
  cases ns with
  | nil => exact ⟨0, by simp⟩
  | cons n ns =>
    have h : k % (ns.length + 1) < (n :: ns).length := Nat.mod_lt _ (by simp)
    have e : (k : Int) % ((ns.length : Int) + 1) = ((k % (ns.length + 1) : Nat) : Int) := by simp
    refine ⟨(n :: ns)[k % (ns.length + 1)], ?_⟩
    have hx : oIx (.lst (D.int n :: ns.map D.int)) (.int ((k : Int) % ((ns.length : Int) + 1))) st = some (.int (n :: ns)[k % (ns.length + 1)]) := by
      rw [e, oIx_lst, ← List.map_cons, List.getElem?_map, List.getElem?_eq_getElem h]; rfl
    have hm : oMod (.int (k : Int)) (.int ((ns.length : Int) + 1)) st = some (.int ((k : Int) % ((ns.length : Int) + 1))) := oMod_int (by omega)
    simp [hm, hx]

theorem g_mix {c : Calls} {i : Nat} {ns : List Int} (h : CellF (c i) ns) : MixF (body 2 3 (gMix c i)) ns := by
  intro k st
  rw [ap_body (by rfl)]
  unfold gMix
  obtain ⟨x, e⟩ := h k st
  have h1 : 0 ≤ (x + 104729 * ((k : Int) + 1)) % 4294967291 := Int.emod_nonneg _ (by omega)
  have h2 : (x + 104729 * ((k : Int) + 1)) % 4294967291 < 4294967291 := Int.emod_lt_of_pos _ (by omega)
  generalize hy : (x + 104729 * ((k : Int) + 1)) % 4294967291 = y at h1 h2
  have h3 : 0 ≤ y ^ 5 % 4294967279 := Int.emod_nonneg _ (by omega)
  generalize hz : y ^ 5 % 4294967279 = z at h3
  have h4 : 0 ≤ (z / 64 * 69621 + z) % 4294967231 := Int.emod_nonneg _ (by omega)
  refine ⟨((z / 64 * 69621 + z) % 4294967231).toNat, ?_⟩
  have p : ∀ st, oPow (.int y) (.int 5) st = some (.int (y ^ 5)) := fun st => oPow_int ⟨by omega, by omega, by omega⟩
  have m1 : ∀ st, oMul (.int 104729) (.int ((k : Int) + 1)) st = some (.int (104729 * ((k : Int) + 1))) := fun st => oMul_l (by omega)
  have m2 : ∀ st, oMul (.int (z / 64)) (.int 69621) st = some (.int (z / 64 * 69621)) := fun st => oMul_r (by omega)
  simp (disch := omega) [e, m1, oMod_int, hy, p, hz, oDiv_int, m2, Int.toNat_of_nonneg h4]

theorem g_draw {c : Calls} {i : Nat} {ns : List Int} (h : MixF (c i) ns) : DrawF (body 3 3 (gDraw c i)) ns := by
  intro t rest many ht hm
  rw [ap_body (by rfl)]
  unfold gDraw
  obtain ⟨m, e⟩ := h (t + 1) (S (t + 1) rest)
  refine ⟨m / 8 % many, Nat.mod_lt _ hm, ?_⟩
  have e' : c i [scr ns, .int ((t : Int) + 1)] (S (t + 1) rest) = .ok (.int m) (S (t + 1) rest) := by simpa using e
  have a : ∀ g env, app1 g env (.ref 0) (S t rest) = (g env (S t rest)).bind (app2 0) := fun g env => app1_ok (S_get t rest)
  have a3 : app3 (some (.ml (List.replicate t (.int 0)))) 0 (.int 0) (S t rest) = .ok .non (S (t + 1) rest) := by
    rw [app3_ok (by simp; omega), S_set]
  simp (disch := omega) [a, S_get, a3, e', oDiv_int, oMod_int]

theorem g_pick {c : Calls} {i : Nat} {ns : List Int} (h : DrawF (c i) ns) : PickF (body 3 3 (gPick c i)) ns := by
  constructor
  · intro t rest l ht hl
    rw [ap_body (by rfl)]
    unfold gPick
    obtain ⟨r, hr, e⟩ := h t rest l.length ht (List.length_pos_iff.mpr hl)
    refine ⟨l[r], List.getElem_mem _, ?_⟩
    simp [e, oIx_lst, List.getElem?_eq_getElem hr]
  · intro t rest s ht hl hs
    rw [ap_body (by rfl)]
    unfold gPick
    obtain ⟨r, hr, e⟩ := h t rest s.length ht (List.length_pos_iff.mpr hl)
    refine ⟨s[r], List.getElem_mem _, ?_⟩
    simp [e, oIx_str hs, bLen_str hs, List.getElem?_eq_getElem hr]
  · intro t rest n l ht hl hg
    rw [ap_body (by rfl)]
    unfold gPick
    obtain ⟨r, hr, e⟩ := h t rest l.length ht (List.length_pos_iff.mpr hl)
    refine ⟨l[r], List.getElem_mem _, ?_⟩
    have hx : oIx (.ref (n + 1)) (.int (r : Int)) (S (t + 1) rest) = some l[r] := by
      rw [oIx_ref (l := l) (by rw [S_getS]; exact hg), oIx_lst, List.getElem?_eq_getElem hr]
    simp [e, hg, hx, lnO_as hg]
end TH.Q
namespace TH.Q
open TH
/-! ### drawing, told by what is left alone -/
def TW (t : Nat) (st : St) : Prop := st[0]? = some (.ml (List.replicate t (.int 0)))
/-- the same but for the town -/
structure Fr0 (st st' : St) : Prop where
  at_ : ∀ j : Nat, st'[j + 1]? = st[j + 1]?
  len : st'.length = st.length
theorem Fr0.refl (st : St) : Fr0 st st := ⟨fun _ => rfl, rfl⟩
theorem Fr0.trans {a b c : St} (h : Fr0 a b) (h' : Fr0 b c) : Fr0 a c := ⟨fun j => (h'.at_ j).trans (h.at_ j), h'.len.trans h.len⟩
theorem TW.eq {t : Nat} {st : St} (h : TW t st) : ∃ rest, st = S t rest := by
  cases st with
  | nil => cases h
  | cons o rest => cases h; exact ⟨rest, rfl⟩
theorem S_TW (t : Nat) (rest : St) : TW t (S t rest) := rfl
theorem S_Fr (t t' : Nat) (rest : St) : Fr0 (S t rest) (S t' rest) := ⟨fun _ => rfl, rfl⟩
theorem DrawF.fr {F : FF} {ns : List Int} (h : DrawF F ns) {t : Nat} {st : St} (i : TW t st) (many : Nat) (ht : t < 10000000) (hm : 0 < many) : ∃ (r : Nat) (st' : St), r < many ∧ F [scr ns, .ref 0, .int many] st = .ok (.int r) st' ∧ TW (t + 1) st' ∧ Fr0 st st' := by
  obtain ⟨rest, rfl⟩ := i.eq
  obtain ⟨r, hr, e⟩ := h t rest many ht hm
  exact ⟨r, _, hr, e, S_TW _ _, S_Fr _ _ _⟩
theorem PickF.fr {F : FF} {ns : List Int} (h : PickF F ns) {t : Nat} {st : St} (i : TW t st) (l : List D) (ht : t < 10000000) (hl : l ≠ []) : ∃ d st', d ∈ l ∧ F [scr ns, .ref 0, .lst l] st = .ok d st' ∧ TW (t + 1) st' ∧ Fr0 st st' := by
  obtain ⟨rest, rfl⟩ := i.eq
  obtain ⟨d, hd, e⟩ := h.lst t rest l ht hl
  exact ⟨d, _, hd, e, S_TW _ _, S_Fr _ _ _⟩

/-! ### signs, levels -/
def alpha : List Nat := [32, 33, 35, 36, 38, 39, 40, 41, 42, 43, 44, 45, 46, 47, 48, 49, 50, 51, 52, 53, 54, 55, 56, 57, 58, 59, 60, 61, 62, 63, 64, 65, 66, 67, 88, 89, 90, 91, 93, 94, 95, 97, 98, 99, 100, 101, 102, 103, 104, 105, 106, 107, 108, 109, 110, 111, 112, 113, 114, 115, 116, 117, 118, 119, 120, 121, 122, 123, 124, 125, 126]
def gSigns (c : Calls) (i : Nat) : SM := sSeq (sSet 4 (xC (.str alpha)))
    (sSeq (sSet 5 (xC (.str [])))
    (sSeq (sFor (iRng1 (xVar 2)) (.name 6) (sSeq (sSet 7 (xCall c i (aCons (xVar 0) (aCons (xVar 1) (aCons (xVar 4) (aNil))))))
    (sSet 5 (xBin oAdd (xVar 5) (xIf (xAnd (xBin oIn (xVar 7) (xC (.str [43, 35, 47]))) (xNot (xVar 3))) (xC (.str [120])) (xVar 7))))))
    (sRet (xVar 5))))
def gLevel (c : Calls) (id ip is : Nat) : SM := sSeq (sSet 2 (xCall c id (aCons (xVar 0) (aCons (xVar 1) (aCons (xC (.int 8)) (aNil))))))
    (sSeq (sIf (xBin oLt (xVar 2) (xC (.int 5))) (sRet (xCall c ip (aCons (xVar 0) (aCons (xVar 1) (aCons (xLst (lLst (aCons (xC (.str [97])) (aCons (xC (.str [98])) (aCons (xC (.str [])) (aCons (xC (.str [36, 115])) (aCons (xC (.str [97, 98])) (aNil)))))))) (aNil)))))) (sSkip))
    (sRet (xCall c is (aCons (xVar 0) (aCons (xVar 1) (aCons (xCall c ip (aCons (xVar 0) (aCons (xVar 1) (aCons (xLst (lLst (aCons (xC (.int 1)) (aCons (xC (.int 2)) (aCons (xC (.int 5)) (aCons (xC (.int 12)) (aNil))))))) (aNil))))) (aCons (xC (.bl false)) (aNil))))))))
/-- a sign of a level -/
def okc (c : Nat) : Bool := decide (32 ≤ c) && decide (c < 127) && c != 37 && c != 35 && c != 43
/-- a printed sign, no per cent -/
def okp (c : Nat) : Bool := decide (32 ≤ c) && decide (c < 127) && c != 37
def isLv (s : List Nat) : Bool := decide (s.length ≤ 12) && s.all okc
structure SignsF (F : FF) (ns : List Int) : Prop where
  any : ∀ (t : Nat) (rest : St) (n : Nat) (also : Bool), t + n < 10000000 → n ≤ 1000 → ∃ s : List Nat, s.length = n ∧ (∀ c ∈ s, okp c = true ∧ (also = false → c ≠ 43 ∧ c ≠ 35 ∧ c ≠ 47)) ∧
    F [scr ns, .ref 0, .int n, .bl also] (S t rest) = .ok (.str s) (S (t + n) rest)
/-- a level that is drawn: good, without a slash -/
def LevelF (F : FF) (ns : List Int) : Prop := ∀ (t : Nat) (rest : St), t + 20 < 10000000 → ∃ (s : List Nat) (t' : Nat), t' ≤ t + 20 ∧ isLv s = true ∧ 47 ∉ s ∧ F [scr ns, .ref 0] (S t rest) = .ok (.str s) (S t' rest)
def IsLevelF (F : FF) : Prop := ∀ (s : List Nat) (st : St), s.length ≤ 16777216 → F [.str s] st = .ok (.bl (isLv s)) st

theorem alpha_okp : ∀ c ∈ alpha, okp c = true := by decide
theorem g_signs {c : Calls} {i : Nat} {ns : List Int} (h : PickF (c i) ns) : SignsF (body 4 8 (gSigns c i)) ns := by
  constructor
  intro t rest n also ht hn
  rw [ap_body (by rfl)]
  unfold gSigns
  let I : Nat → Env → St → Prop := fun k env st => ∃ (s : List Nat) (e6 e7 : Option D), k + s.length = n ∧ (∀ c ∈ s, okp c = true ∧ (also = false → c ≠ 43 ∧ c ≠ 35 ∧ c ≠ 47)) ∧
    env = [some (scr ns), some (.ref 0), some (.int n), some (.bl also), some (.str alpha), some (.str s), e6, e7] ∧ st = S (t + s.length) rest
  obtain ⟨env', st', e, s, e6, e7, h1, h2, h3, h4⟩ := fData_inv (t := .name 6) (b := sSeq (sSet 7 (xCall c i (aCons (xVar 0) (aCons (xVar 1) (aCons (xVar 4) (aNil))))))
    (sSet 5 (xBin oAdd (xVar 5) (xIf (xAnd (xBin oIn (xVar 7) (xC (.str [43, 35, 47]))) (xNot (xVar 3))) (xC (.str [120])) (xVar 7))))) (fun k : Nat => D.int k) I (List.range n)
    [some (scr ns), some (.ref 0), some (.int n), some (.bl also), some (.str alpha), some (.str []), none, none] (S t rest) ⟨[], none, none, by simp, by simp, rfl, rfl⟩ (by
      rintro a - k env st ⟨s, e6, e7, h1, h2, rfl, rfl⟩
      obtain ⟨d, hd, ed⟩ := h.str (t + s.length) rest alpha (by omega) (by simp [alpha]) (by simp [alpha])
      have hl : s.length + 1 ≤ 16777216 := by omega
      refine ⟨_, [some (scr ns), some (.ref 0), some (.int n), some (.bl also), some (.str alpha), some (.str (s ++ [if ([43, 35, 47].contains d && !also) then 120 else d])), some (.int a), some (.str [d])], S (t + s.length + 1) rest, rfl, ?_,
        s ++ [if ([43, 35, 47].contains d && !also) then 120 else d], some (.int a), some (.str [d]), by simp; omega, ?_, rfl, by simp; rfl⟩
      · simp only [ap_seq, ap_set, ap_call, ap_cons, ap_var, List.set_cons_succ, List.set_cons_zero, List.getElem?_cons_succ, get_zero, get_one, get_two, vr_some, bind_ok, ap_cns1, ap_nil, ap_cns2, ed, bindS_ok, ap_set1, seq_nx, ap_bin, ap_bin1, ap_bin2, ap_if, ap_and, ap_C, oIn_str, ofO_some, ap_and1, truthy_bl, ap_and2, ap_not, ap_not1, ap_not2, and3_b, ap_if1, ap_if2, if3_b, ite_str]
        rw [oAdd_str (by split <;> simp <;> omega)]
        simp only [ofO_some, bindS_ok, ap_set1, List.set_cons_succ, List.set_cons_zero]
        split <;> rfl
      · intro x hx
        rcases List.mem_append.mp hx with hx | hx
        · exact h2 x hx
        · rw [List.mem_singleton] at hx
          subst hx
          split
          · exact ⟨by decide, fun _ => by decide⟩
          · rename_i hc
            refine ⟨alpha_okp d hd, fun hal => ?_⟩
            subst hal
            simp at hc
            omega
      )
  subst h3 h4
  have hs : s.length = n := by omega
  refine ⟨s, hs, h2, ?_⟩
  have hr : rng1 (.int (n : Int)) (S t rest) = .ok (.data ((List.range n).map fun (k : Nat) => D.int (k : Int))) (S t rest) := rng1_ok (by omega)
  simp [hr, e, hs]
end TH.Q
namespace TH.Q
open TH
theorem isLv_of {s : List Nat} (h1 : s.length ≤ 12) (h2 : ∀ c ∈ s, okp c = true ∧ c ≠ 43 ∧ c ≠ 35 ∧ c ≠ 47) : isLv s = true ∧ 47 ∉ s := by
  refine ⟨?_, fun h => (h2 47 h).2.2.2 rfl⟩
  unfold isLv
  simp only [Bool.and_eq_true, decide_eq_true_eq, List.all_eq_true]
  refine ⟨h1, fun c hc => ?_⟩
  obtain ⟨a, b, c', d⟩ := h2 c hc
  unfold okp at a; unfold okc
  simp only [Bool.and_eq_true, decide_eq_true_eq, bne_iff_ne] at a ⊢
  exact ⟨⟨⟨a.1, a.2⟩, c'⟩, b⟩
theorem g_level {c : Calls} {id ip is : Nat} {ns : List Int} (hd : DrawF (c id) ns) (hp : PickF (c ip) ns) (hs : SignsF (c is) ns) : LevelF (body 2 3 (gLevel c id ip is)) ns := by
  intro t rest ht
  rw [ap_body (by rfl)]
  unfold gLevel
  obtain ⟨r, hr, er⟩ := hd t rest 8 (by omega) (by omega)
  have er' : c id [scr ns, .ref 0, .int 8] (S t rest) = .ok (.int r) (S (t + 1) rest) := er
  by_cases h5 : r < 5
  · obtain ⟨d, hd, ed⟩ := hp.lst (t + 1) rest [.str [97], .str [98], .str [], .str [36, 115], .str [97, 98]] (by omega) (by simp)
    have h5' : (r : Int) < 5 := by omega
    have : ∃ s, d = .str s ∧ isLv s = true ∧ 47 ∉ s := by
      simp only [List.mem_cons, List.not_mem_nil, or_false] at hd
      rcases hd with rfl | rfl | rfl | rfl | rfl <;> exact ⟨_, rfl, by decide, by decide⟩
    obtain ⟨s, rfl, h1, h2⟩ := this
    exact ⟨s, t + 1 + 1, by omega, h1, h2, by simp [er', ed, h5']⟩
  · obtain ⟨d, hd, ed⟩ := hp.lst (t + 1) rest [.int 1, .int 2, .int 5, .int 12] (by omega) (by simp)
    have h5' : ¬ (r : Int) < 5 := by omega
    have : ∃ n : Nat, d = .int n ∧ n ≤ 12 := by
      simp only [List.mem_cons, List.not_mem_nil, or_false] at hd
      rcases hd with rfl | rfl | rfl | rfl
      · exact ⟨1, rfl, by decide⟩
      · exact ⟨2, rfl, by decide⟩
      · exact ⟨5, rfl, by decide⟩
      · exact ⟨12, rfl, by decide⟩
    obtain ⟨n, rfl, hn⟩ := this
    obtain ⟨s, h1, h2, es⟩ := hs.any (t + 1 + 1) rest n false (by omega) (by omega)
    obtain ⟨g1, g2⟩ := isLv_of (s := s) (by omega) fun c hc => ⟨(h2 c hc).1, (h2 c hc).2 rfl⟩
    exact ⟨s, t + 1 + 1 + n, by omega, g1, g2, by simp [er', ed, h5', es]⟩

def gIsLevel : SM := sSeq (sSet 1 (xLst (lComp (iVal (xVar 0)) (.name 2) none (xB bOrd (aCons (xVar 2) (aNil))) [2])))
    (sRet (xAnd (xBin oLt (xB bLen (aCons (xVar 0) (aNil))) (xC (.int 13))) (xB bAll (aCons (xLst (lComp (iVal (xVar 1)) (.name 3) none (xAnd (xChain oLe oLt (xC (.int 32)) (xVar 3) (xC (.int 127))) (xBin oNotIn (xVar 3) (xTup (aCons (xC (.int 35)) (aCons (xC (.int 37)) (aCons (xC (.int 43)) (aNil))))))) [3])) (aNil)))))
theorem lv_in (a : Nat) (st : St) : oNotIn (.int (a : Int)) (.tup [.int 35, .int 37, .int 43]) st = some (.bl (!((35 : Int) == a || ((37 : Int) == a || (43 : Int) == a)))) := by
  rw [oNotIn_tup (by rfl) (by rfl)]; simp [D.eqv]
theorem lv_ok (a : Nat) : (decide ((32 : Int) ≤ a) && decide ((a : Int) < 127) && !((35 : Int) == a || ((37 : Int) == a || (43 : Int) == a))) = okc a := by
  unfold okc
  rw [Bool.eq_iff_iff]
  simp only [Bool.and_eq_true, decide_eq_true_eq, bne_iff_ne, Bool.not_eq_true', Bool.or_eq_false_iff, beq_eq_false_iff_ne]
  omega
theorem g_is_level : IsLevelF (body 1 4 gIsLevel) := by
  intro s st hs
  rw [ap_body (by rfl)]
  unfold gIsLevel
  simp [wk_str hs]
  rw [cData_map (g := fun c : Nat => D.int c) (h := ?h) (hl := by simpa using hs)]
  case h => exact fun a _ => ⟨_, put_name _ _ _ _, by simp⟩
  simp [bLen_str hs]
  rw [cData_map (g := fun c : Nat => D.bl (okc c)) (h := ?h) (hl := by simpa using hs)]
  case h => exact fun a _ => ⟨_, put_name _ _ _ _, by simp only [List.set_cons_succ, List.set_cons_zero, ap_and, ap_chain, ap_C, bind_ok, ap_ch1, ap_var, List.getElem?_cons_succ, get_zero, get_one, get_two, vr_some, ap_ch2, oLe_int, ap_ch3, oLt_int, ofO_some, ch4_b, ap_and1, truthy_bl, ap_and2, ap_bin, ap_bin1, ap_tup, ap_cons, ap_cns1, ap_nil, ap_cns2, tup1_3, ap_bin2, lv_in, and3_b, lv_ok]⟩
  simp
  unfold isLv
  congr 1
  rw [Bool.eq_iff_iff]; simp only [decide_eq_true_eq]; omega
end TH.Q
namespace TH.Q
open TH
/-! ### names, wishes -/
def isNm (s : List Nat) : Bool := !s.isEmpty && (decide ((splitL 47 s).length ≤ 8) && (splitL 47 s).all isLv)
/-- a wish's levels but a hash at the end -/
def wPlain (l : List (List Nat)) : List (List Nat) := if l.getLast? = some [35] then l.dropLast else l
def isWl (l : List Nat) : Bool := l == [43] || isLv l
def isWs (s : List Nat) : Bool := !s.isEmpty && (decide ((splitL 47 s).length ≤ 8) && (wPlain (splitL 47 s)).all isWl)
def IsNameF (F : FF) : Prop := ∀ (s : List Nat) (st : St), s.length ≤ 16777000 → F [.str s] st = .ok (.bl (isNm s)) st
/-- the store grows -/
def IsWishF (F : FF) : Prop := ∀ (s : List Nat) (st : St), s.length ≤ 90000 → ∃ o, F [.str s] st = .ok (.bl (isWs s)) (st ++ [o])

def gIsName (c : Calls) (i : Nat) : SM := sSeq (sSet 1 (xLst (lSplit (xVar 0) (xC (.str [47])))))
    (sRet (xAnd (xBin oNe (xVar 0) (xC (.str []))) (xAnd (xBin oLt (xB bLen (aCons (xVar 1) (aNil))) (xC (.int 9))) (xB bAll (aCons (xLst (lComp (iVal (xVar 1)) (.name 2) none (xCall c i (aCons (xVar 2) (aNil))) [2])) (aNil))))))
def gIsWish (c : Calls) (i : Nat) : SM := sSeq (sSet 1 (xMut (lSplit (xVar 0) (xC (.str [47])))))
    (sSeq (sIf (xBin oEq (xBin oIx (xVar 1) (xNeg (xC (.int 1)))) (xC (.str [35]))) (sSetL (xVar 1) (xNeg (xC (.int 1))) (xC (.str [97]))) (sSkip))
    (sRet (xAnd (xBin oNe (xVar 0) (xC (.str []))) (xAnd (xBin oLt (xB bLen (aCons (xVar 1) (aNil))) (xC (.int 9))) (xB bAll (aCons (xLst (lComp (iVal (xVar 1)) (.name 2) none (xOr (xBin oEq (xVar 2) (xC (.str [43]))) (xCall c i (aCons (xVar 2) (aNil)))) [2])) (aNil)))))))
theorem lt9 (n : Nat) : decide ((n : Int) < 9) = decide (n ≤ 8) := by rw [Bool.eq_iff_iff]; simp only [decide_eq_true_eq]; omega
theorem g_is_name {c : Calls} {i : Nat} (h : IsLevelF (c i)) : IsNameF (body 1 3 (gIsName c i)) := by
  intro s st hs
  rw [ap_body (by rfl)]
  unfold gIsName
  have hl := splitL_len 47 s
  simp [spl2_ok (s := s) (c := 47) (st := st) (by omega) (by decide)]
  rw [cData_map (g := fun p : List Nat => D.bl (isLv p)) (h := ?h) (hl := by simp; omega)]
  case h => exact fun p hp => ⟨_, put_name _ _ _ _, by simp [h p st (by have := hl.2 p hp; omega)]⟩
  simp [lt9]
  rfl
theorem getLast?_set {α : Type} (l : List α) (h : l ≠ []) (a : α) : l.set (l.length - 1) a = l.dropLast ++ [a] := by
  induction l with
  | nil => exact absurd rfl h
  | cons x l ih =>
    cases l with
    | nil => rfl
    | cons y r =>
      have := ih (by simp)
      simp only [List.length_cons, Nat.add_sub_cancel, List.set_cons_succ, List.dropLast_cons₂, List.cons_append] at this ⊢
      rw [this]
theorem isWl_a : isWl [97] = true := by decide
theorem wish_all (l : List (List Nat)) (hl : l ≠ []) : (if l.getLast? = some [35] then l.dropLast ++ [[97]] else l).all isWl = (wPlain l).all isWl := by
  unfold wPlain
  split
  · rw [List.all_append, show ([[97]] : List (List Nat)).all isWl = true from by decide, Bool.and_true]
  · rfl
theorem g_is_wish {c : Calls} {i : Nat} (h : IsLevelF (c i)) : IsWishF (body 1 3 (gIsWish c i)) := by
  intro s st hs
  have hl := splitL_len 47 s
  have hne := splitL_ne 47 s
  have hsp := spl2_ok (s := s) (c := 47) (st := st) (by omega) (by decide)
  have hws : isWs s = (!s.isEmpty && (decide ((splitL 47 s).length ≤ 8) && (wPlain (splitL 47 s)).all isWl)) := rfl
  generalize splitL 47 s = ps at hl hne hsp hws
  obtain ⟨qs, hqs0⟩ : ∃ qs, qs = if ps.getLast? = some [35] then ps.dropLast ++ [[97]] else ps := ⟨_, rfl⟩
  refine ⟨.ml (qs.map D.str), ?_⟩
  rw [ap_body (by rfl)]
  unfold gIsWish
  obtain ⟨z, hz⟩ : ∃ z, ps.getLast? = some z := by
    cases hh : ps.getLast? with
    | none => exact absurd (List.getLast?_eq_none_iff.mp hh) hne
    | some z => exact ⟨z, rfl⟩
  have hget : ∀ xs : List D, (st ++ [Ob.ml xs])[st.length]? = some (.ml xs) := fun xs => by simp
  have hix : oIx (.ref st.length) (.int (-1)) (st ++ [Ob.ml (ps.map D.str)]) = some (.str z) := by
    rw [oIx_ref (l := ps.map D.str) (by rw [hget]; rfl), oIx_lstm1, List.getLast?_map, hz]; rfl
  have hqs : qs.length = ps.length := by
    rw [hqs0]
    split
    · simp; have : ps.length ≠ 0 := fun h0 => hne (List.length_eq_zero_iff.mp h0); omega
    · rfl
  have hql : ∀ q ∈ qs, q.length ≤ s.length ∨ q = [97] := by
    intro q hq
    rw [hqs0] at hq
    split at hq
    · rcases List.mem_append.mp hq with hq | hq
      · exact .inl (hl.2 q (List.dropLast_subset _ hq))
      · exact .inr (by simpa using hq)
    · exact .inl (hl.2 q hq)
  have hlast : oEq (.str z) (.str [35]) (st ++ [Ob.ml (ps.map D.str)]) = some (.bl (z == [35])) := oEq_str _ _ _
  have key : ∀ env : Env, env = [some (.str s), some (.ref st.length), none] → fin (sRet (xAnd (xBin oNe (xVar 0) (xC (.str []))) (xAnd (xBin oLt (xB bLen (aCons (xVar 1) (aNil))) (xC (.int 9))) (xB bAll (aCons (xLst (lComp (iVal (xVar 1)) (.name 2) none (xOr (xBin oEq (xVar 2) (xC (.str [43]))) (xCall c i (aCons (xVar 2) (aNil)))) [2])) (aNil))))) env (st ++ [.ml (qs.map D.str)])) = .ok (.bl (isWs s)) (st ++ [.ml (qs.map D.str)]) := by
    rintro _ rfl
    simp [lt9]
    rw [cObj_map (f := D.str) (g := fun p : List Nat => D.bl (isWl p)) (l := qs) (hm := by simp) (h := ?h) (hl := by rw [hqs]; omega)]
    case h => exact fun p hp => ⟨_, put_name _ _ _ _, by
      simp [h p (st ++ [Ob.ml (qs.map D.str)]) (by rcases hql p hp with h | rfl; omega; simp)]
      rfl⟩
    simp
    rw [hws, ← wish_all _ hne, hqs, ← hqs0]
  simp only [ap_seq, ap_set, ap_mut, ap_split, ap_var, List.map_cons, List.map_nil, List.length_cons, List.length_nil, List.cons_append, List.nil_append, get_zero, get_one, vr_some, bind_ok, ap_spl1, ap_C, hsp, ap_mut1, bindS_ok, ap_set1, seq_nx, ap_sif, ap_bin, ap_bin1, ap_neg, ap_neg1, ap_bin2, List.reduceReplicate, List.set_cons_succ, List.set_cons_zero, Nat.reduceSub, Nat.zero_add, hix, ofO_some, hlast, ap_sif1, truthy_bl]
  by_cases h35 : z = [35]
  · subst h35
    have hqe : qs = ps.dropLast ++ [[97]] := by rw [hqs0, if_pos hz]
    have hst : stl2 (.str [97]) (.ref st.length) [some (.str s), some (.ref st.length), none] (.int (-1)) (st ++ [Ob.ml (ps.map D.str)]) = .nx [some (.str s), some (.ref st.length), none] (st ++ [Ob.ml (qs.map D.str)]) := by
      have hp : 0 < (ps.map D.str).length := by rw [List.length_map]; exact List.length_pos_iff.mpr hne
      rw [stl2_ok (hget _), ixN_m1 _ hp, stl3_some, getLast?_set _ (by simpa using hne), hqe]
      simp
    simp only [beq_self_eq_true, sif2_t, ap_stl, ap_C, bindS_ok, ap_stl0, ap_var, List.getElem?_cons_succ, get_zero, get_one, vr_some, ap_stl1, ap_neg, bind_ok, ap_neg1, hst, seq_nx]
    exact key _ rfl
  · have hqe : qs = ps := by rw [hqs0, if_neg (by rw [hz]; simpa using h35)]
    rw [hqe] at key
    rw [show (z == [35]) = false from by simpa using h35]
    simp only [sif2_f, ap_skip, seq_nx]
    rw [hqe]
    exact key _ rfl
end TH.Q
namespace TH.Q
open TH
/-! ### fitting -/
def isWideB (l : List Nat) : Bool := l == [43] || l == [35]
def one (w n : List Nat) : Bool := w == [43] || w == n
/-- what the laws' own fits comes to -/
def lawFit (ws ns : List (List Nat)) : Bool :=
  if ws.head?.any isWideB && ns.head?.any fun n => n.take 1 == [36] then false else
  if ws.getLast? = some [35] then
    if ns.length < ws.length - 1 then false else (ws.dropLast.zip (ns.take (ws.length - 1))).all fun p => one p.1 p.2
  else if ws.length = ns.length then (ws.zip ns).all fun p => one p.1 p.2 else false
def LawFitsF (F : FF) : Prop := ∀ (w n : List Nat) (st : St), w.length ≤ 16777000 → n.length ≤ 16777000 → F [.str w, .str n] st = .ok (.bl (lawFit (splitL 47 w) (splitL 47 n))) st
def gLawFits : SM := sSeq (sSet 2 (xLst (lSplit (xVar 0) (xC (.str [47])))))
    (sSeq (sSet 3 (xLst (lSplit (xVar 1) (xC (.str [47])))))
    (sSeq (sIf (xAnd (xBin oIn (xBin oIx (xVar 2) (xC (.int 0))) (xTup (aCons (xC (.str [43])) (aCons (xC (.str [35])) (aNil))))) (xBin oEq (xSl (xBin oIx (xVar 3) (xC (.int 0))) none (some (xC (.int 1)))) (xC (.str [36])))) (sRet (xC (.bl false))) (sSkip))
    (sSeq (sIf (xBin oEq (xBin oIx (xVar 2) (xNeg (xC (.int 1)))) (xC (.str [35]))) (sSeq (sSet 2 (xLst (lSl (xVar 2) none (some (xNeg (xC (.int 1)))))))
    (sSeq (sIf (xBin oLt (xB bLen (aCons (xVar 3) (aNil))) (xB bLen (aCons (xVar 2) (aNil)))) (sRet (xC (.bl false))) (sSkip))
    (sSet 3 (xLst (lSl (xVar 3) none (some (xB bLen (aCons (xVar 2) (aNil))))))))) (sSkip))
    (sSeq (sIf (xBin oNe (xB bLen (aCons (xVar 2) (aNil))) (xB bLen (aCons (xVar 3) (aNil)))) (sRet (xC (.bl false))) (sSkip))
    (sRet (xB bAll (aCons (xLst (lComp (iRng1 (xB bLen (aCons (xVar 2) (aNil)))) (.name 4) none (xBin oIn (xBin oIx (xVar 2) (xVar 4)) (xTup (aCons (xC (.str [43])) (aCons (xBin oIx (xVar 3) (xVar 4)) (aNil))))) [4])) (aNil))))))))
theorem wide_in (w : List Nat) (st : St) : oIn (.str w) (.tup [.str [43], .str [35]]) st = some (.bl (isWideB w)) := by
  rw [oIn_tup (by rfl) (by rfl)]
  simp only [List.any_cons, List.any_nil, D.eqv, Bool.or_false, isWideB]
  congr 2
  rw [Bool.eq_iff_iff]; simp only [Bool.or_eq_true, beq_iff_eq]; constructor <;> rintro (h | h) <;> simp [h]
theorem one_in (w n : List Nat) (st : St) : oIn (.str w) (.tup [.str [43], .str n]) st = some (.bl (one w n)) := by
  rw [oIn_tup (by rfl) (by rfl)]
  simp only [List.any_cons, List.any_nil, D.eqv, Bool.or_false, one]
  congr 2
  rw [Bool.eq_iff_iff]; simp only [Bool.or_eq_true, beq_iff_eq]; constructor <;> rintro (h | h) <;> simp [h]
theorem range_zip (ws ns : List (List Nat)) (h : ws.length = ns.length) : (List.range ws.length).all (fun k => one (ws.getD k []) (ns.getD k [])) = (ws.zip ns).all fun p => one p.1 p.2 := by
  induction ws generalizing ns with
  | nil => rfl
  | cons w ws ih =>
    cases ns with
    | nil => simp at h
    | cons n ns =>
      rw [List.length_cons, List.range_succ_eq_map, List.all_cons, List.all_map, List.zip_cons_cons, List.all_cons, ← ih ns (by simpa using h)]
      rfl
def gTail : SM := sSeq (sIf (xBin oNe (xB bLen (aCons (xVar 2) (aNil))) (xB bLen (aCons (xVar 3) (aNil)))) (sRet (xC (.bl false))) (sSkip))
    (sRet (xB bAll (aCons (xLst (lComp (iRng1 (xB bLen (aCons (xVar 2) (aNil)))) (.name 4) none (xBin oIn (xBin oIx (xVar 2) (xVar 4)) (xTup (aCons (xC (.str [43])) (aCons (xBin oIx (xVar 3) (xVar 4)) (aNil))))) [4])) (aNil))))
theorem tail_ok (a b : D) (ws ns : List (List Nat)) (e : Option D) (st : St) (hw : ws.length ≤ 16777216) :
    fin (gTail [some a, some b, some (.lst (ws.map D.str)), some (.lst (ns.map D.str)), none] st) = .ok (.bl (if ws.length = ns.length then (ws.zip ns).all fun p => one p.1 p.2 else false)) st := by
  unfold gTail
  simp
  by_cases h : ws.length = ns.length
  · have h' : (ws.length : Int) = ns.length := by omega
    simp only [h, h', if_true, sif2_f]
    simp [rng1_ok (show ns.length < 2 ^ 62 by omega)]
    rw [cData_map (g := fun k : Nat => D.bl (one (ws.getD k []) (ns.getD k []))) (h := ?h) (hl := by simp; omega)]
    case h =>
      intro k hk
      have hk' := List.mem_range.mp hk
      have e1 : oIx (.lst (ws.map D.str)) (.int (k : Int)) st = some (.str (ws.getD k [])) := by
        rw [oIx_lst]; simp [List.getD_eq_getElem?_getD, List.getElem?_eq_getElem (show k < ws.length by omega)]
      have e2 : oIx (.lst (ns.map D.str)) (.int (k : Int)) st = some (.str (ns.getD k [])) := by
        rw [oIx_lst]; simp [List.getD_eq_getElem?_getD, List.getElem?_eq_getElem hk']
      exact ⟨_, put_name _ _ _ _, by simp [e1, e2, one_in]⟩
    rw [← h]
    have := range_zip ws ns h
    simp only [List.nil_append, bind_ok, ap_val1, ap_cns1, ap_nil, ap_cns2, ap_blt1, bAll_map, ofO_some, bindS_ok, ap_ret1, fin_ret, this]
  · have h' : ¬ (ws.length : Int) = ns.length := by omega
    simp [h, h']
theorem g_law_fits : LawFitsF (body 2 5 gLawFits) := by
  intro w n st hw hn
  rw [ap_body (by rfl)]
  have lw := splitL_len 47 w
  have ln := splitL_len 47 n
  have nw := splitL_ne 47 w
  have nn := splitL_ne 47 n
  have sw := spl2_ok (s := w) (c := 47) (st := st) (by omega) (by decide)
  have sn := spl2_ok (s := n) (c := 47) (st := st) (by omega) (by decide)
  generalize splitL 47 w = ws at lw nw sw
  generalize splitL 47 n = ns at ln nn sn
  obtain ⟨w0, hw0⟩ : ∃ z, ws.head? = some z := by cases ws with | nil => exact absurd rfl nw | cons a b => exact ⟨a, rfl⟩
  obtain ⟨n0, hn0⟩ : ∃ z, ns.head? = some z ∧ z.length ≤ 16777216 := by cases ns with | nil => exact absurd rfl nn | cons a b => exact ⟨a, rfl, by have := ln.2 a List.mem_cons_self; omega⟩
  obtain ⟨z, hz⟩ : ∃ z, ws.getLast? = some z := by
    cases hh : ws.getLast? with
    | none => exact absurd (List.getLast?_eq_none_iff.mp hh) nw
    | some z => exact ⟨z, rfl⟩
  have hp : 0 < ws.length := List.length_pos_iff.mpr nw
  show fin ((sSeq _ (sSeq _ (sSeq _ (sSeq _ gTail)))) _ _) = _
  unfold lawFit
  simp only [hw0, hn0.1, hz, Option.any_some]
  simp [sw, sn, wide_in, xs3_str hn0.2, hw0, hn0.1, hz]
  by_cases hc : isWideB w0 = true ∧ List.take 1 n0 = [36]
  · simp [hc]
  · rw [if_neg hc]
    have hc' : (!isWideB w0 || !decide (List.take 1 n0 = [36])) = true := by
      rw [← Bool.not_and, Bool.not_eq_true', Bool.eq_false_iff]; simpa using hc
    by_cases hz5 : z = [35]
    · subst hz5
      simp only [if_true]
      by_cases hl : ns.length < ws.length - 1
      · have hl' : (ns.length : Int) < ((ws.length - 1 : Nat) : Int) := by omega
        simp [hl, hl']
      · have hl' : ¬ (ns.length : Int) < ((ws.length - 1 : Nat) : Int) := by omega
        simp [hl, hl']
        rw [hc', Bool.true_and, ← List.map_dropLast, ← List.map_take, tail_ok _ _ _ _ none _ (by simp; omega), if_pos (by simp; omega)]
    · simp [hz5]
      rw [hc', Bool.true_and, tail_ok _ _ _ _ none _ (by omega)]
      congr 2
      by_cases h : ws.length = ns.length <;> simp [h]

/-! ### the module of names -/
def gLv : SM := sSeq (sIf (xBin oGt (xB bLen (aCons (xVar 0) (aNil))) (xC (.int 12))) (sRet (xC (.bl false))) (sSkip))
    (sRet (xB bAll (aCons (xLst (lComp (iVal (xVar 0)) (.name 1) none (xAnd (xChain oLe oLt (xC (.int 32)) (xB bOrd (aCons (xVar 1) (aNil))) (xC (.int 127))) (xAnd (xBin oNe (xB bOrd (aCons (xVar 1) (aNil))) (xC (.int 37))) (xBin oNotIn (xVar 1) (xC (.str [43, 35, 47]))))) [1])) (aNil))))
/-- is_level: no slash either -/
def LvF (F : FF) : Prop := ∀ (s : List Nat) (st : St), s.length ≤ 16777216 → F [.str s] st = .ok (.bl (isLv s && !s.contains 47)) st
theorem g_lv : LvF (body 1 2 gLv) := by
  intro s st hs
  rw [ap_body (by rfl)]
  unfold gLv
  simp [bLen_str hs, wk_str hs]
  by_cases h : 12 < s.length
  · have h' : (12 : Int) < s.length := by omega
    simp [h']; intro hh; unfold isLv at hh; simp at hh; omega
  · have h' : ¬ (12 : Int) < s.length := by omega
    simp only [h', if_false]
    rw [cData_map (g := fun c : Nat => D.bl (okc c && !(c == 47))) (h := ?h) (hl := by simp; omega)]
    case h =>
      intro a _
      refine ⟨_, put_name _ _ _ _, ?_⟩
      simp
      unfold okc
      rw [Bool.eq_iff_iff]; simp; omega
    simp
    unfold isLv
    rw [Bool.eq_iff_iff]; simp
    constructor
    · exact fun H => ⟨⟨by omega, fun x hx => (H x hx).1⟩, fun h => (H 47 h).2 rfl⟩
    · exact fun H x hx => ⟨H.1.2 x hx, fun e => H.2 (e ▸ hx)⟩
/-- a level of a text that is split has no slash -/
theorem lv_part {p s : List Nat} (h : p ∈ splitL 47 s) : (isLv p && !p.contains 47) = isLv p := by
  have := splitL_not 47 s p h
  simp [this]
def gLookName (c : Calls) (i : Nat) : SM := sSeq (sSet 1 (xLst (lSplit (xVar 0) (xC (.str [47])))))
    (sIf (xOr (xBin oEq (xVar 0) (xC (.str []))) (xOr (xBin oGt (xB bLen (aCons (xVar 1) (aNil))) (xC (.int 8))) (xNot (xB bAll (aCons (xLst (lComp (iVal (xVar 1)) (.name 2) none (xCall c i (aCons (xVar 2) (aNil))) [2])) (aNil)))))) (sRaise 1) (sSkip))
def LookNameF (F : FF) : Prop := ∀ (s : List Nat) (st : St), s.length ≤ 16777000 → F [.str s] st = if isNm s = true then .ok .non st else .exn 1 st
theorem gt8 (n : Nat) : decide ((8 : Int) < n) = !decide (n ≤ 8) := by rw [Bool.eq_iff_iff]; simp; omega
theorem ite_swap {α : Type} (b : Bool) (x y : α) : (if b = false then x else y) = if b = true then y else x := by cases b <;> rfl
theorem g_look_name {c : Calls} {i : Nat} (h : LvF (c i)) : LookNameF (body 1 3 (gLookName c i)) := by
  intro s st hs
  rw [ap_body (by rfl)]
  unfold gLookName
  have hl := splitL_len 47 s
  simp [spl2_ok (s := s) (c := 47) (st := st) (by omega) (by decide)]
  rw [cData_map (g := fun p : List Nat => D.bl (isLv p)) (h := ?h) (hl := by simp; omega)]
  case h => exact fun p hp => ⟨_, put_name _ _ _ _, by simp [h p st (by have := hl.2 p hp; omega), lv_part hp]; exact fun _ => splitL_not 47 s p hp⟩
  have e : (s.isEmpty || (decide ((8 : Int) < ((splitL 47 s).length : Nat)) || !(splitL 47 s).all isLv)) = !isNm s := by
    unfold isNm
    rw [gt8]
    cases s.isEmpty <;> cases decide ((splitL 47 s).length ≤ 8) <;> cases (splitL 47 s).all isLv <;> rfl
  simp only [List.nil_append, bind_ok, ap_val1, ap_cns1, ap_nil, ap_cns2, ap_blt1, bAll_map, ofO_some, ap_not1, truthy_bl, ap_not2, or3_b, e, bindS_ok, ap_sif1, sif2_b, fin_ite, ap_raise, ap_skip, fin_exn, fin_nx]
  cases isNm s <;> rfl
def gLookWish (c : Calls) (i : Nat) : SM := sSeq (sSet 1 (xLst (lSplit (xVar 0) (xC (.str [47])))))
    (sSeq (sSet 2 (xIf (xBin oEq (xBin oIx (xVar 1) (xNeg (xC (.int 1)))) (xC (.str [35]))) (xLst (lSl (xVar 1) none (some (xNeg (xC (.int 1)))))) (xVar 1)))
    (sIf (xOr (xBin oEq (xVar 0) (xC (.str []))) (xOr (xBin oGt (xB bLen (aCons (xVar 1) (aNil))) (xC (.int 8))) (xNot (xB bAll (aCons (xLst (lComp (iVal (xVar 2)) (.name 3) none (xOr (xBin oEq (xVar 3) (xC (.str [43]))) (xCall c i (aCons (xVar 3) (aNil)))) [3])) (aNil)))))) (sRaise 1) (sSkip)))
def LookWishF (F : FF) : Prop := ∀ (s : List Nat) (st : St), s.length ≤ 16777000 → F [.str s] st = if isWs s = true then .ok .non st else .exn 1 st
theorem wPlain_sub (l : List (List Nat)) : ∀ p ∈ wPlain l, p ∈ l := by
  unfold wPlain
  split
  · exact fun p hp => List.dropLast_subset _ hp
  · exact fun p hp => hp
theorem wPlain_len (l : List (List Nat)) : (wPlain l).length ≤ l.length := by
  unfold wPlain
  split
  · simp
  · exact Nat.le_refl _
theorem g_look_wish {c : Calls} {i : Nat} (h : LvF (c i)) : LookWishF (body 1 4 (gLookWish c i)) := by
  intro s st hs
  rw [ap_body (by rfl)]
  unfold gLookWish
  have hl := splitL_len 47 s
  have hne := splitL_ne 47 s
  obtain ⟨z, hz⟩ : ∃ z, (splitL 47 s).getLast? = some z := by
    cases hh : (splitL 47 s).getLast? with
    | none => exact absurd (List.getLast?_eq_none_iff.mp hh) hne
    | some z => exact ⟨z, rfl⟩
  have hpl : (if z = [35] then (List.map D.str (splitL 47 s)).dropLast else List.map D.str (splitL 47 s)) = (wPlain (splitL 47 s)).map D.str := by
    unfold wPlain
    rw [hz]
    by_cases h : z = [35]
    · rw [if_pos h, if_pos (by rw [h]), List.map_dropLast]
    · rw [if_neg h, if_neg (by simpa using h)]
  simp [spl2_ok (s := s) (c := 47) (st := st) (by omega) (by decide), hz, hpl]
  rw [cData_map (g := fun p : List Nat => D.bl (isWl p)) (h := ?h) (hl := by have := wPlain_len (splitL 47 s); simp; omega)]
  case h =>
    intro p hp
    have hp' := wPlain_sub _ p hp
    have e := h p st (by have := hl.2 p hp'; omega)
    rw [lv_part hp'] at e
    exact ⟨_, put_name _ _ _ _, by simp [e]; rfl⟩
  have e : (s.isEmpty || (decide ((8 : Int) < ((splitL 47 s).length : Nat)) || !(wPlain (splitL 47 s)).all isWl)) = !isWs s := by
    unfold isWs
    rw [gt8]
    cases s.isEmpty <;> cases decide ((splitL 47 s).length ≤ 8) <;> cases (wPlain (splitL 47 s)).all isWl <;> rfl
  simp only [List.nil_append, bind_ok, ap_val1, ap_cns1, ap_nil, ap_cns2, ap_blt1, bAll_map, ofO_some, ap_not1, truthy_bl, ap_not2, or3_b, e, bindS_ok, ap_sif1, sif2_b, fin_ite, ap_raise, ap_skip, fin_exn, fin_nx]
  cases isWs s <;> rfl
def gIsWide : SM := sRet (xBin oIn (xVar 0) (xTup (aCons (xC (.str [43])) (aCons (xC (.str [35])) (aNil)))))
def IsWideF (F : FF) : Prop := ∀ (s : List Nat) (st : St), F [.str s] st = .ok (.bl (isWideB s)) st
theorem g_is_wide : IsWideF (body 1 1 gIsWide) := by
  intro s st
  rw [ap_body (by rfl)]
  unfold gIsWide
  simp [wide_in]
/-- level by level -/
def fitL : List (List Nat) → List (List Nat) → Bool
  | [], ns => ns.isEmpty
  | w :: ws, ns => if w = [35] then true else match ns with
    | [] => false
    | n :: ns => one w n && fitL ws ns
def gFitsL (c : Calls) (i : Nat) : SM := sSeq (sIf (xBin oEq (xLst (lSl (xVar 0) none (some (xC (.int 1))))) (xLst (lLst (aCons (xC (.str [35])) (aNil))))) (sRet (xC (.bl true))) (sSkip))
    (sSeq (sIf (xOr (xNot (xVar 0)) (xNot (xVar 1))) (sRet (xAnd (xNot (xVar 0)) (xNot (xVar 1)))) (sSkip))
    (sRet (xAnd (xBin oIn (xBin oIx (xVar 0) (xC (.int 0))) (xTup (aCons (xC (.str [43])) (aCons (xBin oIx (xVar 1) (xC (.int 0))) (aNil))))) (xCall c i (aCons (xLst (lSl (xVar 0) (some (xC (.int 1))) none)) (aCons (xLst (lSl (xVar 1) (some (xC (.int 1))) none)) (aNil)))))))
def FitsLF (k : Nat) (F : FF) : Prop := ∀ (ws ns : List (List Nat)) (st : St), ws.length < k → (∀ p ∈ ws, ∀ c ∈ p, c < 55296) → F [.lst (ws.map D.str), .lst (ns.map D.str)] st = .ok (.bl (fitL ws ns)) st
theorem fitsL_zero (F : FF) : FitsLF 0 F := fun _ _ _ h => absurd h (Nat.not_lt_zero _)
theorem g_fits_l {c : Calls} {i k : Nat} (h : FitsLF k (c i)) : FitsLF (k + 1) (body 2 2 (gFitsL c i)) := by
  intro ws ns st hk hw
  rw [ap_body (by rfl)]
  unfold gFitsL
  cases ws with
  | nil =>
    have e := oEq_strs (a := []) (b := [[35]]) (st := st) (by simp) (by simp)
    simp only [List.map_nil, List.map_cons] at e
    simp [e, fitL]
  | cons w ws =>
    have e := oEq_strs (a := [w]) (b := [[35]]) (st := st) (by simpa using fun c hc => hw w List.mem_cons_self c hc) (by simp)
    simp only [List.map_nil, List.map_cons] at e
    have e' : ([w] == [[35]]) = decide (w = [35]) := by rw [Bool.eq_iff_iff]; simp
    rw [e'] at e
    by_cases h35 : w = [35]
    · subst h35; simp at e; simp [e, fitL]
    · simp only [h35, decide_false] at e
      cases ns with
      | nil => simp [e, fitL, h35]
      | cons n ns =>
        have ih := h ws ns st (by simpa using hk) fun p hp => hw p (List.mem_cons_of_mem _ hp)
        simp [e, fitL, h35, one_in, ih]
def gFits (c : Calls) (iw inm iwd ifl : Nat) : SM := sSeq (sExpr (xCall c iw (aCons (xVar 0) (aNil))))
    (sSeq (sExpr (xCall c inm (aCons (xVar 1) (aNil))))
    (sSeq (sSet 2 (xLst (lSplit (xVar 0) (xC (.str [47])))))
    (sRet (xAnd (xNot (xAnd (xCall c iwd (aCons (xBin oIx (xVar 2) (xC (.int 0))) (aNil))) (xBm isStr oStarts (xVar 1) (xC (.str [36]))))) (xCall c ifl (aCons (xVar 2) (aCons (xLst (lSplit (xVar 1) (xC (.str [47])))) (aNil))))))))
/-- does a wish fit a name -/
def fitB (w n : List Nat) : Bool := !((splitL 47 w).head?.any isWideB && [36].isPrefixOf n) && fitL (splitL 47 w) (splitL 47 n)
/-- both good -/
def FitsF (F : FF) : Prop := ∀ (w n : List Nat) (st : St), w.length ≤ 16777000 → n.length ≤ 16777000 → F [.str w, .str n] st = if isWs w = true then (if isNm n = true then .ok (.bl (fitB w n)) st else .exn 1 st) else .exn 1 st
theorem isLv_lt {p : List Nat} (h : isLv p = true) : ∀ c ∈ p, c < 127 := by
  intro c hc
  unfold isLv at h
  simp only [Bool.and_eq_true, List.all_eq_true] at h
  have := h.2 c hc
  unfold okc at this
  simp only [Bool.and_eq_true, decide_eq_true_eq] at this
  exact this.1.1.1.2
theorem isWl_lt {p : List Nat} (h : isWl p = true) : ∀ c ∈ p, c < 127 := by
  unfold isWl at h
  rw [Bool.or_eq_true, beq_iff_eq] at h
  rcases h with rfl | h
  · simp
  · exact isLv_lt h
theorem wPlain_or {l : List (List Nat)} {p : List Nat} (hp : p ∈ l) : p ∈ wPlain l ∨ p = [35] := by
  unfold wPlain
  split
  · rename_i h
    obtain ⟨ys, rfl⟩ := List.getLast?_eq_some_iff.mp h
    rw [List.dropLast_concat]
    rcases List.mem_append.mp hp with h | h
    · exact .inl h
    · exact .inr (by simpa using h)
  · exact .inl hp
theorem isWs_lt {w : List Nat} (h : isWs w = true) : ∀ p ∈ splitL 47 w, ∀ c ∈ p, c < 127 := by
  unfold isWs at h
  simp only [Bool.and_eq_true, List.all_eq_true] at h
  intro p hp
  rcases wPlain_or hp with hp | rfl
  · exact isWl_lt (h.2.2 p hp)
  · simp
theorem isWs_len {w : List Nat} (h : isWs w = true) : (splitL 47 w).length ≤ 8 := by
  unfold isWs at h
  simp only [Bool.and_eq_true, decide_eq_true_eq] at h
  exact h.2.1
theorem isNm_len {w : List Nat} (h : isNm w = true) : (splitL 47 w).length ≤ 8 := by
  unfold isNm at h
  simp only [Bool.and_eq_true, decide_eq_true_eq] at h
  exact h.2.1
theorem g_fits {c : Calls} {iw inm iwd ifl : Nat} {k : Nat} (hw : LookWishF (c iw)) (hn : LookNameF (c inm)) (hd : IsWideF (c iwd)) (hf : FitsLF k (c ifl)) (hk : 8 < k) : FitsF (body 2 3 (gFits c iw inm iwd ifl)) := by
  intro w n st hlw hln
  rw [ap_body (by rfl)]
  unfold gFits
  by_cases g1 : isWs w = true
  · by_cases g2 : isNm n = true
    · obtain ⟨w0, wr, hws⟩ := List.exists_cons_of_ne_nil (splitL_ne 47 w)
      have sw := spl2_ok (s := w) (c := 47) (st := st) (by omega) (by decide)
      have sn := spl2_ok (s := n) (c := 47) (st := st) (by omega) (by decide)
      have hf' := hf (splitL 47 w) (splitL 47 n) st (by have := isWs_len g1; omega) fun p hp c hc => by have := isWs_lt g1 p hp c hc; omega
      have hw' := hw w st hlw
      have hn' := hn n st hln
      rw [if_pos g1] at hw'
      rw [if_pos g2] at hn'
      rw [hws] at sw hf'
      simp only [List.map_cons] at sw hf'
      unfold fitB
      rw [hws, if_pos g1, if_pos g2]
      simp [hw', hn', sw, sn, hf', hd w0 st]
    · have hw' := hw w st hlw
      have hn' := hn n st hln
      rw [if_pos g1] at hw'
      rw [if_neg g2] at hn'
      rw [if_pos g1, if_neg g2]
      simp [hw', hn']
  · have hw' := hw w st hlw
    rw [if_neg g1] at hw'
    rw [if_neg g1]
    simp [hw']
end TH.Q
end
section
set_option linter.all false
set_option autoImplicit false
/-! TH11: the plain law of fitting. Plain Lean. -/
namespace TH.Q
open TH
theorem fitL_plain (ws ns : List (List Nat)) (h : ∀ p ∈ ws, p ≠ [35]) : fitL ws ns = if ws.length = ns.length then (ws.zip ns).all fun p => one p.1 p.2 else false := by
  induction ws generalizing ns with
  | nil => cases ns <;> simp [fitL]
  | cons w ws ih =>
    have hw := h w List.mem_cons_self
    cases ns with
    | nil => simp [fitL, hw]
    | cons n ns =>
      simp only [fitL, hw, if_false, ih ns fun p hp => h p (List.mem_cons_of_mem _ hp), List.length_cons, List.zip_cons_cons, List.all_cons]
      by_cases e : ws.length = ns.length <;> simp [e]
theorem fitL_hash (ws ns : List (List Nat)) (h : ∀ p ∈ ws, p ≠ [35]) : fitL (ws ++ [[35]]) ns = if ns.length < ws.length then false else (ws.zip (ns.take ws.length)).all fun p => one p.1 p.2 := by
  induction ws generalizing ns with
  | nil => simp [fitL]
  | cons w ws ih =>
    have hw := h w List.mem_cons_self
    cases ns with
    | nil => simp [fitL, hw]
    | cons n ns =>
      simp only [List.cons_append, fitL, hw, if_false, ih ns fun p hp => h p (List.mem_cons_of_mem _ hp), List.length_cons, List.take_succ_cons, List.zip_cons_cons, List.all_cons]
      by_cases e : ns.length < ws.length
      · simp [e]
      · simp [e]
theorem head_sign (n : List Nat) : ((splitL 47 n).head?.any fun p => p.take 1 == [36]) = [36].isPrefixOf n := by
  cases n with
  | nil => rfl
  | cons a r =>
    by_cases h : a = 47
    · subst h; rw [splitL_same]; rfl
    · obtain ⟨p, ps, h1, h2⟩ := splitL_cons 47 a r h
      rw [h2]
      simp only [List.head?_cons, Option.any_some, List.take_succ_cons, List.take_zero]
      rw [Bool.eq_iff_iff]
      simp [List.isPrefixOf]
      exact eq_comm
theorem isWl_35 {p : List Nat} (h : isWl p = true) : p ≠ [35] := by
  rintro rfl
  exact absurd h (by decide)
theorem lawFit_eq {w n : List Nat} (hw : isWs w = true) : lawFit (splitL 47 w) (splitL 47 n) = fitB w n := by
  unfold lawFit fitB
  rw [← head_sign]
  have hpl : ∀ p ∈ wPlain (splitL 47 w), p ≠ [35] := by
    unfold isWs at hw
    simp only [Bool.and_eq_true, List.all_eq_true] at hw
    exact fun p hp => isWl_35 (hw.2.2 p hp)
  generalize splitL 47 w = ws at *
  generalize splitL 47 n = ns at *
  have hf : fitL ws ns = if ws.getLast? = some [35] then
      if ns.length < ws.length - 1 then false else (ws.dropLast.zip (ns.take (ws.length - 1))).all fun p => one p.1 p.2
      else if ws.length = ns.length then (ws.zip ns).all fun p => one p.1 p.2 else false := by
    unfold wPlain at hpl
    by_cases h : ws.getLast? = some [35]
    · rw [if_pos h] at hpl ⊢
      obtain ⟨ys, rfl⟩ := List.getLast?_eq_some_iff.mp h
      rw [List.dropLast_concat] at hpl ⊢
      rw [fitL_hash ys ns hpl]
      simp
    · rw [if_neg h] at hpl ⊢
      exact fitL_plain ws ns hpl
  rw [hf]
  by_cases hc : (ws.head?.any isWideB && ns.head?.any fun p => p.take 1 == [36]) = true
  · rw [if_pos hc, hc]; rfl
  · rw [if_neg hc, Bool.not_eq_true] at *
    rw [hc]; rfl
end TH.Q
end
section
set_option linter.all false
set_option autoImplicit false
/-! TH12: the plain law of covering and meeting. Plain Lean. -/
namespace TH.Q
open TH
def covL : List (List Nat) → List (List Nat) → Bool
  | [], os => os.isEmpty
  | w :: ws, os => if w = [35] then true else match os with
    | [] => false
    | o :: os => if o = [35] then false else one w o && covL ws os
def plain1 (l : List Nat) : List Nat := if l = [43] then [97] else l
def plainL (ws : List (List Nat)) : List (List Nat) := (ws.filter fun l => !(l == [35])).map plain1
def bothL : List (List Nat) → List (List Nat) → Option (List (List Nat))
  | [], os => if os.head? = some [35] then some [] else if os = [] then some [] else none
  | w :: ws, os => if w = [35] then some (plainL os) else match os with
    | [] => none
    | o :: os => if o = [35] then some (plainL (w :: ws)) else
      if w = o ∨ w = [43] ∨ o = [43] then (bothL ws os).map fun r => plain1 (if w = [43] then o else w) :: r else none
def d0 (l : List (List Nat)) : Bool := l.head?.any fun p => p.take 1 == [36]
def w0 (l : List (List Nat)) : Bool := l.head?.any isWideB
def fixL (os : List (List Nat)) : List (List Nat) := if os = [[35]] ∨ os = [[], [35]] then os.dropLast ++ [[43], [35]] else os
def fitV (ws ns : List (List Nat)) : Bool := !(w0 ws && d0 ns) && fitL ws ns
def covV (ws os : List (List Nat)) : Bool := !(w0 ws && d0 os) && covL ws (fixL os)
theorem fitB_V (w n : List Nat) : fitB w n = fitV (splitL 47 w) (splitL 47 n) := by
  unfold fitB fitV w0 d0
  rw [head_sign]
/-- no hash but at the end -/
inductive GW : List (List Nat) → Prop
  | nil : GW []
  | hash : GW [[35]]
  | cons {p : List Nat} {ps : List (List Nat)} : isWl p = true → GW ps → GW (p :: ps)
theorem gw_of_plain {ps : List (List Nat)} (h : ∀ p ∈ ps, isWl p = true) : GW ps := by
  induction ps with
  | nil => exact .nil
  | cons p ps ih => exact .cons (h p List.mem_cons_self) (ih fun q hq => h q (List.mem_cons_of_mem _ hq))
theorem gw_of_hash {ps : List (List Nat)} (h : ∀ p ∈ ps, isWl p = true) : GW (ps ++ [[35]]) := by
  induction ps with
  | nil => exact .hash
  | cons p ps ih => exact .cons (h p List.mem_cons_self) (ih fun q hq => h q (List.mem_cons_of_mem _ hq))
theorem gw_of {w : List Nat} (h : isWs w = true) : GW (splitL 47 w) := by
  unfold isWs at h
  simp only [Bool.and_eq_true, List.all_eq_true] at h
  have hp := h.2.2
  generalize splitL 47 w = ws at hp
  unfold wPlain at hp
  by_cases e : ws.getLast? = some [35]
  · rw [if_pos e] at hp
    obtain ⟨ys, rfl⟩ := List.getLast?_eq_some_iff.mp e
    rw [List.dropLast_concat] at hp
    exact gw_of_hash hp
  · rw [if_neg e] at hp
    exact gw_of_plain hp
theorem one_self (w : List Nat) : one w w = true := by simp [one]
theorem one_plus (n : List Nat) : one [43] n = true := by simp [one]
theorem one_iff {w n : List Nat} : one w n = true ↔ w = [43] ∨ w = n := by simp [one]
theorem GW.tail {p : List Nat} {ps : List (List Nat)} (h : GW (p :: ps)) : GW ps := by
  cases h with
  | hash => exact .nil
  | cons _ h => exact h
theorem GW.head {p : List Nat} {ps : List (List Nat)} (h : GW (p :: ps)) : p = [35] ∧ ps = [] ∨ p ≠ [35] ∧ isWl p = true := by
  cases h with
  | hash => exact .inl ⟨rfl, rfl⟩
  | cons h _ => exact .inr ⟨isWl_35 h, h⟩
/-! ### what covers fits -/
theorem cov_fit : ∀ (ws os ns : List (List Nat)), covL ws os = true → fitL os ns = true → fitL ws ns = true
  | [], os, ns, h, f => by
    cases os with
    | nil => exact f
    | cons o os => simp [covL] at h
  | w :: ws, os, ns, h, f => by
    unfold covL at h
    unfold fitL
    by_cases hw : w = [35]
    · rw [if_pos hw]
    · rw [if_neg hw] at h ⊢
      cases os with
      | nil => simp at h
      | cons o os =>
        simp only at h
        by_cases ho : o = [35]
        · rw [if_pos ho] at h; cases h
        · rw [if_neg ho, Bool.and_eq_true] at h
          unfold fitL at f
          rw [if_neg ho] at f
          cases ns with
          | nil => simp at f
          | cons n ns =>
            simp only [Bool.and_eq_true] at f ⊢
            refine ⟨?_, cov_fit ws os ns h.2 f.2⟩
            rw [one_iff] at *
            rcases h.1 with e | rfl
            · exact .inl e
            · exact f.1
theorem fix_fit {os ns : List (List Nat)} (hn : ns ≠ []) (hn' : ns ≠ [[]]) (h : fitL os ns = true) : fitL (fixL os) ns = true := by
  unfold fixL
  split
  · rename_i e
    rcases e with rfl | rfl
    · cases ns with
      | nil => exact absurd rfl hn
      | cons n ns => simp [fitL, one]
    · cases ns with
      | nil => exact absurd rfl hn
      | cons n ns =>
        simp only [fitL, if_neg (show ([] : List Nat) ≠ [35] by decide), Bool.and_eq_true] at h
        have e : n = [] := by
          rcases one_iff.mp h.1 with e | e
          · cases e
          · exact e.symm
        subst e
        cases ns with
        | nil => exact absurd rfl hn'
        | cons m ns => simp [fitL, one]
  · exact h
theorem wide_dollar {p : List Nat} (h : isWideB p = true) : (p.take 1 == [36]) = false := by
  unfold isWideB at h
  rw [Bool.or_eq_true, beq_iff_eq, beq_iff_eq] at h
  rcases h with rfl | rfl <;> rfl
theorem w0_d0 {l : List (List Nat)} (h : w0 l = true) : d0 l = false := by
  cases l with
  | nil => rfl
  | cons p ps => exact wide_dollar h
/-- T5 -/
theorem cov_sound {ws os ns : List (List Nat)} (hn : ns ≠ []) (hn' : ns ≠ [[]]) (h : covV ws os = true) (f : fitV os ns = true) : fitV ws ns = true := by
  unfold covV at h
  unfold fitV at f ⊢
  rw [Bool.and_eq_true, Bool.not_eq_true', Bool.and_eq_false_iff] at *
  refine ⟨?_, cov_fit _ _ _ h.2 (fix_fit hn hn' f.2)⟩
  rcases f.1 with fo | fo
  · rcases h.1 with ho | ho
    · exact .inl ho
    · right
      cases ns with
      | nil => exact absurd rfl hn
      | cons n ns =>
        cases os with
        | nil => simp [fitL] at f
        | cons o os =>
          have f2 := f.2
          unfold fitL at f2
          have h35 : o ≠ [35] := by rintro rfl; simp [w0, isWideB] at fo
          rw [if_neg h35, Bool.and_eq_true] at f2
          rcases one_iff.mp f2.1 with e | e
          · subst e; simp [w0, isWideB] at fo
          · subst e; exact ho
  · exact .inr fo
end TH.Q
namespace TH.Q
open TH
/-! ### a wish's plainest names -/
/-- plus is f; no hash -/
def instL (f : List Nat) (os : List (List Nat)) : List (List Nat) := (os.filter fun l => !(l == [35])).map fun l => if l = [43] then f else l
theorem instL_cons {f o : List Nat} {os : List (List Nat)} (h : o ≠ [35]) : instL f (o :: os) = (if o = [43] then f else o) :: instL f os := by
  simp [instL, h]
theorem instL_hash {f : List Nat} : instL f [[35]] = [] := by simp [instL]
def hashed (os : List (List Nat)) : Bool := os.contains [35]
/-- a wish fits its plainest names; what follows a hash may be longer -/
theorem inst_fit (f : List Nat) : ∀ (os : List (List Nat)), GW os → fitL os (instL f os) = true ∧ (hashed os = true → ∀ x, fitL os (instL f os ++ x) = true)
  | [], _ => ⟨rfl, fun h => by cases h⟩
  | o :: os, g => by
    rcases g.head with ⟨rfl, rfl⟩ | ⟨h35, _⟩
    · simp [instL_hash, fitL]
    · have ih := inst_fit f os g.tail
      rw [instL_cons h35]
      have e : one o (if o = [43] then f else o) = true := by
        split
        · rename_i h; rw [h]; exact one_plus _
        · exact one_self _
      constructor
      · simp [fitL, h35, e, ih.1]
      · intro h x
        have h' : hashed os = true := by
          unfold hashed at h ⊢
          rw [List.contains_cons, Bool.or_eq_true, beq_iff_eq] at h
          exact h.resolve_left fun e => h35 e.symm
        simp [fitL, h35, e, ih.2 h' x]
/-- what fits the plainest name, and one level more of it, covers -/
theorem cov_of_inst (f : List Nat) (hf : f ≠ [43]) : ∀ (ws os : List (List Nat)), GW ws → GW os → f ∉ ws → fitL ws (instL f os) = true → (hashed os = true → fitL ws (instL f os ++ [f]) = true) → covL ws os = true
  | [], os, _, go, _, h, h2 => by
    cases os with
    | nil => rfl
    | cons o os =>
      rcases go.head with ⟨rfl, rfl⟩ | ⟨h35, _⟩
      · have := h2 (by rfl)
        simp [instL_hash, fitL] at this
      · rw [instL_cons h35] at h; simp [fitL] at h
  | w :: ws, os, gw, go, hn, h, h2 => by
    unfold covL
    by_cases hw : w = [35]
    · rw [if_pos hw]
    · rw [if_neg hw]
      cases os with
      | nil => simp [instL, fitL, hw] at h
      | cons o os =>
        rcases go.head with ⟨rfl, rfl⟩ | ⟨h35, _⟩
        · simp [instL_hash, fitL, hw] at h
        · simp only [if_neg h35, Bool.and_eq_true]
          rw [instL_cons h35] at h h2
          simp only [fitL, if_neg hw, Bool.and_eq_true, List.cons_append] at h h2
          refine ⟨?_, cov_of_inst f hf ws os gw.tail go.tail (fun e => hn (List.mem_cons_of_mem _ e)) h.2 fun hh => (h2 (by
            unfold hashed at hh ⊢
            rw [List.contains_cons, hh, Bool.or_true])).2⟩
          rw [one_iff] at *
          rcases h.1 with e | e
          · exact .inl e
          · by_cases ho : o = [43]
            · rw [if_pos ho] at e; exact absurd (e ▸ List.mem_cons_self) hn
            · rw [if_neg ho] at e; exact .inr e
theorem GW.fix {os : List (List Nat)} (g : GW os) : GW (fixL os) := by
  unfold fixL
  split
  · rename_i e
    rcases e with rfl | rfl
    · exact .cons (by decide) .hash
    · exact .cons (by decide) (.cons (by decide) .hash)
  · exact g
/-- the names of the plainest levels, of the wish as covers takes it -/
theorem fix_fit_back {os ns : List (List Nat)} (h : fitL (fixL os) ns = true) : fitL os ns = true := by
  unfold fixL at h
  split at h
  · rename_i e
    rcases e with rfl | rfl
    · simp [fitL]
    · cases ns with
      | nil => simp [fitL] at h
      | cons n ns =>
        simp only [List.dropLast, List.cons_append, List.nil_append, fitL, if_neg (show ([] : List Nat) ≠ [35] by decide), Bool.and_eq_true] at h
        simp [fitL, h.1]
  · exact h
/-- a name made so is one -/
theorem inst_ne {f : List Nat} {os : List (List Nat)} (hf : f ≠ []) (g : GW os) (h0 : os ≠ []) (h1 : os ≠ [[]]) : instL f (fixL os) ≠ [] ∧ instL f (fixL os) ≠ [[]] := by
  unfold fixL
  by_cases e : os = [[35]] ∨ os = [[], [35]]
  · rw [if_pos e]
    rcases e with rfl | rfl
    · simp [instL, hf]
    · simp [instL]
  · rw [if_neg e]
    cases os with
    | nil => exact absurd rfl h0
    | cons o os =>
      rcases g.head with ⟨rfl, rfl⟩ | ⟨h35, _⟩
      · exact absurd (.inl rfl) e
      · rw [instL_cons h35]
        refine ⟨by simp, fun h => ?_⟩
        rw [List.cons.injEq] at h
        by_cases ho : o = [43]
        · rw [if_pos ho] at h; exact hf h.1
        · rw [if_neg ho] at h
          obtain ⟨rfl, h⟩ := h
          cases os with
          | nil => exact h1 rfl
          | cons p ps =>
            rcases g.tail.head with ⟨rfl, rfl⟩ | ⟨h35', _⟩
            · exact e (.inr rfl)
            · rw [instL_cons h35'] at h; cases h
theorem inst_d0 {f : List Nat} {os : List (List Nat)} (hf : (f.take 1 == [36]) = false) (g : GW os) : (d0 (instL f (fixL os)) = d0 os) ∧ ∀ x, (f :: x = [] ∨ True) → d0 (instL f (fixL os) ++ [f]) = d0 os := by
  unfold fixL
  by_cases e : os = [[35]] ∨ os = [[], [35]]
  · rw [if_pos e]
    rcases e with rfl | rfl
    · simp [instL, d0] at hf ⊢; exact hf
    · simp [instL, d0] at hf ⊢
  · rw [if_neg e]
    cases os with
    | nil => simp [instL, d0] at hf ⊢; exact hf
    | cons o os =>
      rcases g.head with ⟨rfl, rfl⟩ | ⟨h35, _⟩
      · exact absurd (.inl rfl) e
      · rw [instL_cons h35]
        by_cases ho : o = [43]
        · subst ho; simp [d0] at hf ⊢; exact hf
        · simp [d0, ho]
/-- T6: what doesn't cover misses a name -/
theorem cov_compl {ws os : List (List Nat)} {f : List Nat} (gw : GW ws) (go : GW os) (hf : f ≠ [43]) (hf' : (f.take 1 == [36]) = false) (hn : f ∉ ws) (h : covV ws os = false) :
    ∃ ns, (ns = instL f (fixL os) ∨ (hashed (fixL os) = true ∧ ns = instL f (fixL os) ++ [f])) ∧ fitV os ns = true ∧ fitV ws ns = false := by
  have hi := inst_fit f (fixL os) go.fix
  obtain ⟨dd1, dd2⟩ := inst_d0 (os := os) hf' go
  have dd2 := dd2 [] (.inr trivial)
  have fo : ∀ ns, d0 ns = d0 os → fitL (fixL os) ns = true → fitV os ns = true := by
    intro ns hd hfit
    unfold fitV
    rw [fix_fit_back hfit, hd, Bool.and_true, Bool.not_eq_true']
    cases hw : w0 os with
    | false => rfl
    | true => rw [w0_d0 hw]; rfl
  unfold covV at h
  rw [Bool.and_eq_false_iff, Bool.not_eq_false', Bool.and_eq_true] at h
  rcases h with ⟨a, b⟩ | h
  · refine ⟨_, .inl rfl, fo _ dd1 hi.1, ?_⟩
    unfold fitV
    rw [a, dd1, b]; rfl
  · by_cases c1 : fitL ws (instL f (fixL os)) = true
    · by_cases c2 : hashed (fixL os) = true ∧ fitL ws (instL f (fixL os) ++ [f]) = false
      · refine ⟨_, .inr ⟨c2.1, rfl⟩, fo _ dd2 (hi.2 c2.1 _), ?_⟩
        unfold fitV
        rw [c2.2, Bool.and_false]
      · have := cov_of_inst f hf ws (fixL os) gw go.fix hn c1 fun hh => by
          cases hx : fitL ws (instL f (fixL os) ++ [f]) with
          | true => rfl
          | false => exact absurd ⟨hh, hx⟩ c2
        rw [this] at h; cases h
    · refine ⟨_, .inl rfl, fo _ dd1 hi.1, ?_⟩
      unfold fitV
      rw [Bool.not_eq_true] at c1
      rw [c1, Bool.and_false]
/-- T1 -/
theorem covL_self : ∀ ws : List (List Nat), GW ws → covL ws ws = true
  | [], _ => rfl
  | w :: ws, g => by
    unfold covL
    by_cases h : w = [35]
    · rw [if_pos h]
    · rw [if_neg h]
      simp only [if_neg h, one_self, covL_self ws g.tail, Bool.and_self]
theorem cov_self {ws : List (List Nat)} (g : GW ws) : covV ws ws = true := by
  unfold covV
  rw [Bool.and_eq_true]
  constructor
  · rw [Bool.not_eq_true']
    cases h : w0 ws with
    | false => rfl
    | true => rw [w0_d0 h]; rfl
  · unfold fixL
    split
    · rename_i e
      rcases e with rfl | rfl
      · decide
      · decide
    · exact covL_self ws g
end TH.Q
namespace TH.Q
open TH
/-! ### meeting -/
theorem plainL_cons {o : List Nat} {os : List (List Nat)} (h : o ≠ [35]) : plainL (o :: os) = plain1 o :: plainL os := by
  simp [plainL, h]
theorem plainL_hash : plainL [[35]] = [] := by simp [plainL]
theorem plain_lv {o : List Nat} (h : isWl o = true) : isLv (plain1 o) = true := by
  unfold plain1
  split
  · decide
  · rename_i hn
    unfold isWl at h
    simpa [hn] using h
theorem plainL_lv : ∀ (os : List (List Nat)), GW os → ∀ p ∈ plainL os, isLv p = true
  | [], _ => by simp [plainL]
  | o :: os, g => by
    rcases g.head with ⟨rfl, rfl⟩ | ⟨h35, hl⟩
    · simp [plainL_hash]
    · rw [plainL_cons h35]
      intro p hp
      rcases List.mem_cons.mp hp with rfl | hp
      · exact plain_lv hl
      · exact plainL_lv os g.tail p hp
theorem plainL_fit : ∀ (os : List (List Nat)), GW os → fitL os (plainL os) = true := fun os g => by
  have := (inst_fit [97] os g).1
  exact this
theorem plainL_len (os : List (List Nat)) : (plainL os).length ≤ os.length := by
  unfold plainL
  rw [List.length_map]
  exact List.length_filter_le _ _
theorem one_plain (w : List Nat) : one w (plain1 w) = true := by
  rw [one_iff]; unfold plain1; split
  · rename_i h; exact .inl h
  · exact .inr rfl
/-- what both comes to fits both -/
theorem both_fit : ∀ (ws os r : List (List Nat)), GW ws → GW os → bothL ws os = some r → fitL ws r = true ∧ fitL os r = true ∧ (∀ p ∈ r, isLv p = true) ∧ r.length ≤ max ws.length os.length
  | [], os, r, gw, go, h => by
    unfold bothL at h
    split at h
    · rename_i e
      cases h
      cases os with
      | nil => cases e
      | cons o os =>
        cases e
        simp [fitL]
    · split at h
      · rename_i e; subst e; cases h; simp [fitL]
      · cases h
  | w :: ws, os, r, gw, go, h => by
    unfold bothL at h
    split at h
    · rename_i e
      subst e
      cases h
      exact ⟨by simp [fitL], plainL_fit os go, plainL_lv os go, by have := plainL_len os; simp; omega⟩
    · rename_i hw
      cases os with
      | nil => cases h
      | cons o os =>
        simp only at h
        split at h
        · rename_i e
          subst e
          cases h
          exact ⟨plainL_fit _ gw, by simp [fitL], plainL_lv _ gw, by have := plainL_len (w :: ws); simp at this ⊢; omega⟩
        · rename_i ho
          split at h
          · rename_i hm
            obtain ⟨q, hq, rfl⟩ := Option.map_eq_some_iff.mp h
            obtain ⟨h1, h2, h3, h4⟩ := both_fit ws os q gw.tail go.tail hq
            have lw : isWl w = true := (gw.head.resolve_left fun e => hw e.1).2
            have lo : isWl o = true := (go.head.resolve_left fun e => ho e.1).2
            have e1 : one w (plain1 (if w = [43] then o else w)) = true := by
              split
              · rename_i e; rw [e]; exact one_plus _
              · exact one_plain w
            have e2 : one o (plain1 (if w = [43] then o else w)) = true := by
              split
              · exact one_plain o
              · rename_i e
                rcases hm with rfl | hm | rfl
                · exact one_plain w
                · exact absurd hm e
                · exact one_plus _
            refine ⟨by simp [fitL, hw, e1, h1], by simp [fitL, ho, e2, h2], ?_, by simp; omega⟩
            intro p hp
            rcases List.mem_cons.mp hp with rfl | hp
            · split
              · exact plain_lv lo
              · exact plain_lv lw
            · exact h3 p hp
          · cases h
/-- T4 -/
theorem both_some : ∀ (ws os ns : List (List Nat)), fitL ws ns = true → fitL os ns = true → ∃ r, bothL ws os = some r
  | [], os, ns, h, f => by
    unfold bothL
    cases ns with
    | nil =>
      cases os with
      | nil => simp
      | cons o os =>
        by_cases e : o = [35]
        · simp [e]
        · simp [fitL, e] at f
    | cons n ns => simp [fitL] at h
  | w :: ws, os, ns, h, f => by
    unfold bothL
    by_cases hw : w = [35]
    · rw [if_pos hw]; exact ⟨_, rfl⟩
    · rw [if_neg hw]
      unfold fitL at h
      rw [if_neg hw] at h
      cases ns with
      | nil => simp at h
      | cons n ns =>
        cases os with
        | nil => simp [fitL] at f
        | cons o os =>
          simp only
          by_cases ho : o = [35]
          · rw [if_pos ho]; exact ⟨_, rfl⟩
          · rw [if_neg ho]
            simp only [fitL, if_neg ho, Bool.and_eq_true] at h f
            obtain ⟨r, hr⟩ := both_some ws os ns h.2 f.2
            have : w = o ∨ w = [43] ∨ o = [43] := by
              rcases one_iff.mp h.1 with e | e
              · exact .inr (.inl e)
              · rcases one_iff.mp f.1 with e' | e'
                · exact .inr (.inr e')
                · exact .inl (e.trans e'.symm)
            rw [if_pos this, hr]
            exact ⟨_, rfl⟩
theorem plainL_nil {os : List (List Nat)} (g : GW os) (h : plainL os = []) : os = [] ∨ os = [[35]] := by
  cases os with
  | nil => exact .inl rfl
  | cons o os =>
    rcases g.head with ⟨rfl, rfl⟩ | ⟨h35, _⟩
    · exact .inr rfl
    · rw [plainL_cons h35] at h; cases h
theorem plain1_nil {o : List Nat} (h : plain1 o = []) : o = [] := by
  unfold plain1 at h
  split at h
  · cases h
  · exact h
theorem both_nil {ws os : List (List Nat)} (gw : GW ws) (go : GW os) (h : bothL ws os = some []) : (ws = [] ∨ ws = [[35]]) ∧ (os = [] ∨ os = [[35]]) := by
  cases ws with
  | nil =>
    unfold bothL at h
    refine ⟨.inl rfl, ?_⟩
    split at h
    · rename_i e
      cases os with
      | nil => cases e
      | cons o os =>
        cases e
        rcases go.head with ⟨_, rfl⟩ | ⟨h35, _⟩
        · exact .inr rfl
        · exact absurd rfl h35
    · split at h
      · rename_i e; exact .inl e
      · cases h
  | cons w ws =>
    unfold bothL at h
    split at h
    · rename_i e
      subst e
      rcases gw.head with ⟨_, rfl⟩ | ⟨h35, _⟩
      · exact ⟨.inr rfl, plainL_nil go (Option.some.inj h)⟩
      · exact absurd rfl h35
    · rename_i hw
      cases os with
      | nil => cases h
      | cons o os =>
        simp only at h
        split at h
        · rw [plainL_cons hw] at h; cases h
        · split at h
          · obtain ⟨q, _, e⟩ := Option.map_eq_some_iff.mp h
            cases e
          · cases h
/-- one empty level, and names that fit both: then /a does -/
theorem both_slash {ws os ns : List (List Nat)} (gw : GW ws) (go : GW os) (h : bothL ws os = some [[]]) (hn : ns ≠ []) (hn' : ns ≠ [[]]) (f1 : fitL ws ns = true) (f2 : fitL os ns = true) : fitL ws [[], [97]] = true ∧ fitL os [[], [97]] = true := by
  have sl : ∀ os : List (List Nat), GW os → plainL os = [[]] → fitL os ns = true → fitL os [[], [97]] = true := by
    intro os go h f
    cases os with
    | nil => cases h
    | cons o os =>
      rcases go.head with ⟨rfl, rfl⟩ | ⟨h35, _⟩
      · cases h
      · rw [plainL_cons h35, List.cons.injEq] at h
        have e := plain1_nil h.1
        subst e
        rcases plainL_nil go.tail h.2 with rfl | rfl
        · cases ns with
          | nil => exact absurd rfl hn
          | cons n ns =>
            simp only [fitL, if_neg h35, Bool.and_eq_true, List.isEmpty_iff] at f
            obtain ⟨a, rfl⟩ := f
            rcases one_iff.mp a with e | e
            · cases e
            · exact absurd (by rw [e]) hn'
        · simp [fitL, one]
  cases ws with
  | nil =>
    unfold bothL at h
    split at h
    · cases h
    · split at h <;> cases h
  | cons w ws =>
    unfold bothL at h
    split at h
    · rename_i e
      subst e
      exact ⟨by simp [fitL], sl os go (Option.some.inj h) f2⟩
    · rename_i hw
      cases os with
      | nil => cases h
      | cons o os =>
        simp only at h
        split at h
        · rename_i e
          subst e
          exact ⟨sl _ gw (Option.some.inj h) f1, by simp [fitL]⟩
        · rename_i ho
          split at h
          · rename_i hm
            obtain ⟨q, hq, e⟩ := Option.map_eq_some_iff.mp h
            rw [List.cons.injEq] at e
            obtain ⟨e, rfl⟩ := e
            have e := plain1_nil e
            obtain ⟨a, b⟩ := both_nil gw.tail go.tail hq
            cases ns with
            | nil => simp [fitL, hw] at f1
            | cons n ns =>
              simp only [fitL, if_neg hw, if_neg ho, Bool.and_eq_true] at f1 f2
              have hw' : w = [43] ∨ w = [] := by
                split at e
                · rename_i h; exact .inl h
                · exact .inr e
              have ho' : o = [43] ∨ o = [] := by
                split at e
                · exact .inr e
                · subst e
                  rcases hm with e | e | e
                  · exact .inr e.symm
                  · cases e
                  · exact .inl e
              have hnn : n = [] := by
                split at e
                · subst e
                  rcases one_iff.mp f2.1 with e | e
                  · cases e
                  · exact e.symm
                · subst e
                  rcases one_iff.mp f1.1 with e | e
                  · cases e
                  · exact e.symm
              subst hnn
              have hns : ns ≠ [] := fun e => hn' (by rw [e])
              have t : ∀ l : List (List Nat), (l = [] ∨ l = [[35]]) → fitL l ns = true → fitL l [[97]] = true := by
                rintro l (rfl | rfl) f
                · cases ns with
                  | nil => exact absurd rfl hns
                  | cons _ _ => simp [fitL] at f
                · simp [fitL]
              have o1 : ∀ p : List Nat, (p = [43] ∨ p = []) → one p [] = true := by
                rintro p (rfl | rfl) <;> rfl
              exact ⟨by simp [fitL, hw, o1 w hw', t ws a f1.2], by simp [fitL, ho, o1 o ho', t os b f2.2]⟩
          · cases h
/-- the name that both fit, level by level; none: there is none -/
def meetV (ws os : List (List Nat)) : Option (List (List Nat)) :=
  if (w0 ws && d0 os) || (w0 os && d0 ws) then none else
  match bothL ws os with
  | none => none
  | some r => if r = [] then some [[97]] else if r = [[]] then (if fitV ws [[], [97]] && fitV os [[], [97]] then some [[], [97]] else none) else some r
theorem d0_d {ws ns : List (List Nat)} (f : fitL ws ns = true) (h : w0 ws = false) : d0 ws = d0 ns := by
  cases ws with
  | nil => cases ns with
    | nil => rfl
    | cons _ _ => simp [fitL] at f
  | cons w ws =>
    have hw : w ≠ [35] := by rintro rfl; simp [w0, isWideB] at h
    cases ns with
    | nil => simp [fitL, hw] at f
    | cons n ns =>
      simp only [fitL, if_neg hw, Bool.and_eq_true] at f
      rcases one_iff.mp f.1 with e | e
      · subst e; simp [w0, isWideB] at h
      · subst e; rfl
/-- T2 -/
theorem meet_sound {ws os r : List (List Nat)} (gw : GW ws) (go : GW os) (nw : ws ≠ []) (no : os ≠ []) (h : meetV ws os = some r) :
    fitV ws r = true ∧ fitV os r = true ∧ (∀ p ∈ r, isLv p = true) ∧ r.length ≤ max (max ws.length os.length) 2 ∧ r ≠ [] ∧ r ≠ [[]] := by
  unfold meetV at h
  split at h
  · cases h
  · rename_i hd
    rw [Bool.not_eq_true, Bool.or_eq_false_iff, Bool.and_eq_false_iff, Bool.and_eq_false_iff] at hd
    cases hb : bothL ws os with
    | none => rw [hb] at h; cases h
    | some q =>
      rw [hb] at h
      simp only at h
      split at h
      · rename_i e
        subst e
        cases h
        obtain ⟨a, b⟩ := both_nil gw go hb
        have a := a.resolve_left nw
        have b := b.resolve_left no
        subst a b
        refine ⟨by decide, by decide, by decide, by simp, by simp, by simp⟩
      · rename_i e0
        split at h
        · split at h
          · rename_i e
            cases h
            rw [Bool.and_eq_true] at e
            exact ⟨e.1, e.2, by decide, by simp; omega, by simp, by simp⟩
          · cases h
        · rename_i e1
          cases h
          obtain ⟨h1, h2, h3, h4⟩ := both_fit ws os _ gw go hb
          have k : ∀ a b : List (List Nat), fitL a r = true → fitL b r = true → (w0 a = false ∨ d0 b = false) → (w0 b = false ∨ d0 a = false) → (w0 a = true → w0 b = true → d0 r = false) → fitV a r = true := by
            intro a b fa fb ha hb hc
            unfold fitV
            rw [fa, Bool.and_true, Bool.not_eq_true', Bool.and_eq_false_iff]
            cases hwa : w0 a with
            | false => exact .inl rfl
            | true =>
              right
              rcases ha with ha | ha
              · rw [hwa] at ha; cases ha
              · cases hwb : w0 b with
                | false => rw [← d0_d fb hwb]; exact ha
                | true => exact hc hwa hwb
          have hc : w0 ws = true → w0 os = true → d0 r = false := by
            intro hw ho
            have wp : ∀ p : List Nat, isWideB p = true → p ≠ [35] → p = [43] := by
              intro p hp hn
              unfold isWideB at hp
              rw [Bool.or_eq_true, beq_iff_eq, beq_iff_eq] at hp
              exact hp.resolve_right hn
            cases ws with
            | nil => exact absurd rfl nw
            | cons w ws =>
              cases os with
              | nil => exact absurd rfl no
              | cons o os =>
                have pl : ∀ (p : List Nat) (l : List (List Nat)), isWideB p = true → d0 (plainL (p :: l)) = false ∨ p = [35] := by
                  intro p l hp
                  by_cases e : p = [35]
                  · exact .inr e
                  · left; rw [plainL_cons e, wp p hp e]; rfl
                unfold bothL at hb
                split at hb
                · cases hb
                  rcases pl o os ho with h | h
                  · exact h
                  · subst h
                    rcases go.head with ⟨_, rfl⟩ | ⟨h35, _⟩
                    · rfl
                    · exact absurd rfl h35
                · rename_i hw35
                  simp only at hb
                  split at hb
                  · cases hb
                    exact (pl w ws hw).resolve_right hw35
                  · rename_i ho35
                    split at hb
                    · obtain ⟨q, _, e⟩ := Option.map_eq_some_iff.mp hb
                      rw [← e, wp w hw hw35, wp o ho ho35]
                      rfl
                    · cases hb
          exact ⟨k ws os h1 h2 hd.1 hd.2 hc, k os ws h2 h1 hd.2 hd.1 fun a b => hc b a, h3, by omega, e0, e1⟩
/-- T4 -/
theorem meet_some {ws os ns : List (List Nat)} (gw : GW ws) (go : GW os) (hn : ns ≠ []) (hn' : ns ≠ [[]]) (f1 : fitV ws ns = true) (f2 : fitV os ns = true) : ∃ r, meetV ws os = some r := by
  have f1' := f1
  have f2' := f2
  unfold fitV at f1 f2
  rw [Bool.and_eq_true, Bool.not_eq_true', Bool.and_eq_false_iff] at f1 f2
  unfold meetV
  have c : ∀ a b : List (List Nat), (w0 a = false ∨ d0 ns = false) → fitL b ns = true → (w0 a && d0 b) = false := by
    intro a b h f
    rw [Bool.and_eq_false_iff]
    rcases h with h | h
    · exact .inl h
    · right
      cases hw : w0 b with
      | true => exact w0_d0 hw
      | false => rw [d0_d f hw]; exact h
  rw [c ws os f1.1 f2.2, c os ws f2.1 f1.2]
  obtain ⟨r, hr⟩ := both_some ws os ns f1.2 f2.2
  simp only [Bool.or_self, Bool.false_eq_true, if_false, hr]
  split
  · exact ⟨_, rfl⟩
  · split
    · rename_i e
      subst e
      obtain ⟨s1, s2⟩ := both_slash gw go hr hn hn' f1.2 f2.2
      have z : ∀ l, fitL l [[], [97]] = true → fitV l [[], [97]] = true := by
        intro l h
        unfold fitV
        rw [h]
        simp [d0]
      rw [z ws s1, z os s2]
      exact ⟨_, rfl⟩
    · exact ⟨_, rfl⟩
theorem dollar_a : ((97 :: ([] : List Nat)).take 1 == [36]) = false := rfl
/-- a good wish has a name -/
theorem wish_name {os : List (List Nat)} (g : GW os) (h0 : os ≠ []) (h1 : os ≠ [[]]) : ∃ ns, ns ≠ [] ∧ ns ≠ [[]] ∧ fitV os ns = true := by
  obtain ⟨a, b⟩ := inst_ne (f := [97]) (by simp) g h0 h1
  obtain ⟨c, _⟩ := inst_d0 (f := [97]) rfl g
  refine ⟨_, a, b, ?_⟩
  unfold fitV
  rw [fix_fit_back (inst_fit [97] (fixL os) g.fix).1, c, Bool.and_true, Bool.not_eq_true']
  cases hw : w0 os with
  | false => rfl
  | true => rw [w0_d0 hw]; rfl
/-- T3: what covers is met -/
theorem cov_meet {ws os : List (List Nat)} (gw : GW ws) (go : GW os) (h0 : os ≠ []) (h1 : os ≠ [[]]) (h : covV ws os = true) : (∃ r, meetV ws os = some r) ∧ ∃ r, meetV os ws = some r := by
  obtain ⟨ns, n0, n1, f⟩ := wish_name go h0 h1
  have f' := cov_sound n0 n1 h f
  exact ⟨meet_some gw go n0 n1 f' f, meet_some go gw n0 n1 f f'⟩
/-- T8 -/
theorem meet_symm {ws os r : List (List Nat)} (gw : GW ws) (go : GW os) (nw : ws ≠ []) (no : os ≠ []) (h : meetV ws os = some r) : ∃ r, meetV os ws = some r := by
  obtain ⟨a, b, _, _, c, d⟩ := meet_sound gw go nw no h
  exact meet_some go gw c d b a
theorem nodup_len : ∀ (l m : List (List Nat)), l.Nodup → (∀ x ∈ l, x ∈ m) → l.length ≤ m.length
  | [], _, _, _ => Nat.zero_le _
  | a :: l, m, h, s => by
    rw [List.nodup_cons] at h
    have ha := s a List.mem_cons_self
    have := nodup_len l (m.erase a) h.2 fun x hx => (List.mem_erase_of_ne (fun e : x = a => h.1 (e ▸ hx))).mpr (s x (List.mem_cons_of_mem _ hx))
    rw [List.length_erase_of_mem ha] at this
    have : 0 < m.length := List.length_pos_of_mem ha
    simp only [List.length_cons]; omega
/-- a level that isn't among these -/
theorem fresh_lv (ws : List (List Nat)) (h : ws.length ≤ 8) : ∃ f : List Nat, f ≠ [43] ∧ (f.take 1 == [36]) = false ∧ f ∉ ws ∧ f ≠ [] := by
  let some : List (List Nat) := [[97], [98], [99], [100], [101], [102], [103], [104], [105]]
  have hs : some.Nodup := by decide
  have : ∃ f ∈ some, f ∉ ws := by
    by_cases h' : ∃ f ∈ some, f ∉ ws
    · exact h'
    · have sub : some ⊆ ws := fun f hf => by
        by_cases e : f ∈ ws
        · exact e
        · exact absurd ⟨f, hf, e⟩ h'
      have := nodup_len _ _ hs sub
      have e : some.length = 9 := rfl
      omega
  obtain ⟨f, hf, hn⟩ := this
  refine ⟨f, ?_, ?_, hn, ?_⟩
  · rintro rfl; revert hf; decide
  · simp only [some, List.mem_cons, List.not_mem_nil, or_false] at hf
    rcases hf with rfl | rfl | rfl | rfl | rfl | rfl | rfl | rfl | rfl <;> rfl
  · rintro rfl; revert hf; decide
/-- T7 -/
theorem cov_trans {ws os ts : List (List Nat)} (gw : GW ws) (gt : GW ts) (h8 : ws.length ≤ 8) (h0 : ts ≠ []) (h1 : ts ≠ [[]]) (a : covV ws os = true) (b : covV os ts = true) : covV ws ts = true := by
  cases h : covV ws ts with
  | true => rfl
  | false =>
    obtain ⟨f, f1, f2, f3, f4⟩ := fresh_lv ws h8
    obtain ⟨ns, hns, g1, g2⟩ := cov_compl gw gt f1 f2 f3 h
    have nn : ns ≠ [] ∧ ns ≠ [[]] := by
      obtain ⟨x, y⟩ := inst_ne f4 gt h0 h1
      rcases hns with rfl | ⟨_, rfl⟩
      · exact ⟨x, y⟩
      · refine ⟨by simp, fun e => ?_⟩
        cases hi : instL f (fixL ts) with
        | nil => exact x hi
        | cons p ps => rw [hi] at e; simp at e
    have := cov_sound nn.1 nn.2 a (cov_sound nn.1 nn.2 b g1)
    rw [this] at g2; cases g2
end TH.Q
end
section
set_option linter.all false
set_option autoImplicit false
/-! TH13: covers, meeting: what the program's functions answer. Plain Lean. -/
namespace TH.Q
open TH
def okC (l : List (List Nat)) : Prop := ∀ p ∈ l, ∀ c ∈ p, c < 55296
theorem okC.tail {p : List Nat} {l : List (List Nat)} (h : okC (p :: l)) : okC l := fun q hq => h q (List.mem_cons_of_mem _ hq)
theorem eq_hash {ws : List (List Nat)} (h : okC ws) (st : St) : oEq (.lst ((ws.map D.str).take 1)) (.lst [.str [35]]) st = some (.bl (ws.head? == some [35])) := by
  cases ws with
  | nil => rfl
  | cons w ws =>
    have := oEq_strs (a := [w]) (b := [[35]]) (st := st) (by simpa using fun c hc => h w List.mem_cons_self c hc) (by simp)
    simp only [List.map_cons, List.map_nil] at this
    simp only [List.map_cons, List.take_succ_cons, List.take_zero, this, List.head?_cons]
    congr 2
    rw [Bool.eq_iff_iff]; simp
def gCovL (c : Calls) (i : Nat) : SM := sSeq (sIf (xBin oEq (xLst (lSl (xVar 0) none (some (xC (.int 1))))) (xLst (lLst (aCons (xC (.str [35])) (aNil))))) (sRet (xC (.bl true))) (sSkip))
    (sSeq (sIf (xOr (xNot (xVar 0)) (xNot (xVar 1))) (sRet (xAnd (xNot (xVar 0)) (xNot (xVar 1)))) (sSkip))
    (sSeq (sIf (xBin oEq (xBin oIx (xVar 1) (xC (.int 0))) (xC (.str [35]))) (sRet (xC (.bl false))) (sSkip))
    (sRet (xAnd (xBin oIn (xBin oIx (xVar 0) (xC (.int 0))) (xTup (aCons (xC (.str [43])) (aCons (xBin oIx (xVar 1) (xC (.int 0))) (aNil))))) (xCall c i (aCons (xLst (lSl (xVar 0) (some (xC (.int 1))) none)) (aCons (xLst (lSl (xVar 1) (some (xC (.int 1))) none)) (aNil))))))))
def CovLF (k : Nat) (F : FF) : Prop := ∀ (ws os : List (List Nat)) (st : St), ws.length < k → okC ws → F [.lst (ws.map D.str), .lst (os.map D.str)] st = .ok (.bl (covL ws os)) st
theorem covL_zero (F : FF) : CovLF 0 F := fun _ _ _ h => absurd h (Nat.not_lt_zero _)
theorem g_covL {c : Calls} {i k : Nat} (h : CovLF k (c i)) : CovLF (k + 1) (body 2 2 (gCovL c i)) := by
  intro ws os st hk hw
  rw [ap_body (by rfl)]
  unfold gCovL
  have e := eq_hash hw st
  cases ws with
  | nil =>
    simp only [List.map_nil, List.take_nil, List.head?_nil] at e
    simp [e, covL]
  | cons w ws =>
    simp only [List.map_cons, List.head?_cons] at e
    by_cases h35 : w = [35]
    · subst h35; simp at e; simp [e, covL]
    · have e' : (some w == some [35]) = false := by simpa using h35
      rw [e'] at e
      cases os with
      | nil =>
        simp only [List.take_succ_cons, List.take_zero] at e
        simp [e, covL, h35]
      | cons o os =>
        simp only [List.take_succ_cons, List.take_zero] at e
        have ih := h ws os st (by simpa using hk) hw.tail
        by_cases ho : o = [35]
        · simp [e, covL, h35, ho]
        · simp [e, covL, h35, one_in, ih, ho]
def gPlainL : SM := sRet (xLst (lComp (iVal (xVar 0)) (.name 1) (some (xBin oNe (xVar 1) (xC (.str [35])))) (xIf (xBin oEq (xVar 1) (xC (.str [43]))) (xC (.str [97])) (xVar 1)) [1]))
def PlainLF (F : FF) : Prop := ∀ (ws : List (List Nat)) (st : St), ws.length ≤ 1000 → F [.lst (ws.map D.str)] st = .ok (.lst ((plainL ws).map D.str)) st
theorem g_plainL : PlainLF (body 1 2 gPlainL) := by
  intro ws st hl
  rw [ap_body (by rfl)]
  unfold gPlainL
  simp
  rw [cData_filter (f := D.str) (g := fun p => D.str (plain1 p)) (p := fun p => !(p == [35])) (h := ?h) (hl := by simp; omega)]
  case h =>
    intro p hp
    refine ⟨_, put_name _ _ _ _, ⟨.bl (!(p == [35])), by simp, rfl⟩, fun _ => ?_⟩
    simp [plain1]
  simp [plainL]
def oD : Option (List (List Nat)) → D
  | none => .non
  | some r => .lst (r.map D.str)
theorem bothL_len : ∀ (ws os r : List (List Nat)), bothL ws os = some r → r.length ≤ max ws.length os.length
  | [], os, r, h => by
    unfold bothL at h
    split at h
    · cases h; simp
    · split at h
      · cases h; simp
      · cases h
  | w :: ws, os, r, h => by
    unfold bothL at h
    split at h
    · cases h; have := plainL_len os; omega
    · cases os with
      | nil => cases h
      | cons o os =>
        simp only at h
        split at h
        · cases h; have := plainL_len (w :: ws); omega
        · split at h
          · obtain ⟨q, hq, rfl⟩ := Option.map_eq_some_iff.mp h
            have := bothL_len ws os q hq
            simp only [List.length_cons]; omega
          · cases h
def gBothL (c : Calls) (ip i : Nat) : SM := sSeq (sIf (xBin oEq (xLst (lSl (xVar 0) none (some (xC (.int 1))))) (xLst (lLst (aCons (xC (.str [35])) (aNil))))) (sRet (xCall c ip (aCons (xVar 1) (aNil)))) (sSkip))
    (sSeq (sIf (xBin oEq (xLst (lSl (xVar 1) none (some (xC (.int 1))))) (xLst (lLst (aCons (xC (.str [35])) (aNil))))) (sRet (xCall c ip (aCons (xVar 0) (aNil)))) (sSkip))
    (sSeq (sIf (xOr (xNot (xVar 0)) (xNot (xVar 1))) (sRet (xIf (xOr (xVar 0) (xVar 1)) (xC .non) (xLst (lLst (aNil))))) (sSkip))
    (sSeq (sIf (xAnd (xBin oNe (xBin oIx (xVar 0) (xC (.int 0))) (xBin oIx (xVar 1) (xC (.int 0)))) (xBin oNotIn (xC (.str [43])) (xTup (aCons (xBin oIx (xVar 0) (xC (.int 0))) (aCons (xBin oIx (xVar 1) (xC (.int 0))) (aNil)))))) (sRet (xC .non)) (sSkip))
    (sSeq (sSet 2 (xIf (xBin oEq (xBin oIx (xVar 0) (xC (.int 0))) (xC (.str [43]))) (xBin oIx (xVar 1) (xC (.int 0))) (xBin oIx (xVar 0) (xC (.int 0)))))
    (sSeq (sSet 3 (xCall c i (aCons (xLst (lSl (xVar 0) (some (xC (.int 1))) none)) (aCons (xLst (lSl (xVar 1) (some (xC (.int 1))) none)) (aNil)))))
    (sRet (xIf (xBin oIs (xVar 3) (xC .non)) (xC .non) (xLst (lCat (xCall c ip (aCons (xLst (lLst (aCons (xVar 2) (aNil)))) (aNil))) (xVar 3))))))))))
def BothLF (k : Nat) (F : FF) : Prop := ∀ (ws os : List (List Nat)) (st : St), ws.length < k → ws.length ≤ 500 → os.length ≤ 500 → okC ws → okC os → F [.lst (ws.map D.str), .lst (os.map D.str)] st = .ok (oD (bothL ws os)) st
theorem bothL_zero (F : FF) : BothLF 0 F := fun _ _ _ h => absurd h (Nat.not_lt_zero _)
theorem plus_notIn (w o : List Nat) (st : St) : oNotIn (.str [43]) (.tup [.str w, .str o]) st = some (.bl (!(w == [43] || o == [43]))) := by
  rw [oNotIn_tup (by rfl) (by rfl)]; simp [D.eqv]
theorem g_bothL {c : Calls} {ip i k : Nat} (hp : PlainLF (c ip)) (h : BothLF k (c i)) : BothLF (k + 1) (body 2 4 (gBothL c ip i)) := by
  intro ws os st hk hlw hlo hw ho
  rw [ap_body (by rfl)]
  unfold gBothL
  have e := eq_hash hw st
  have e2 := eq_hash ho st
  have p1 := hp ws st (by omega)
  have p2 := hp os st (by omega)
  cases ws with
  | nil =>
    simp only [List.map_nil, List.take_nil, List.head?_nil] at e p1
    cases os with
    | nil =>
      simp only [List.map_nil, List.take_nil, List.head?_nil] at e2
      simp [e, bothL, oD]
    | cons o os =>
      simp only [List.map_cons, List.head?_cons, List.take_succ_cons, List.take_zero] at e2
      by_cases h35 : o = [35]
      · subst h35; simp at e2; simp [e, e2, bothL, oD, p1, plainL]
      · have e' : (some o == some [35]) = false := by simpa using h35
        rw [e'] at e2
        simp [e, e2, bothL, oD, h35]
  | cons w ws =>
    simp only [List.map_cons, List.head?_cons, List.take_succ_cons, List.take_zero] at e p1
    by_cases h35 : w = [35]
    · subst h35; simp at e; simp [e, bothL, oD, p2]
    · have e' : (some w == some [35]) = false := by simpa using h35
      rw [e'] at e
      cases os with
      | nil =>
        simp only [List.map_nil, List.take_nil, List.head?_nil] at e2
        simp [e, e2, bothL, oD, h35]
      | cons o os =>
        simp only [List.map_cons, List.head?_cons, List.take_succ_cons, List.take_zero] at e2
        by_cases ho35 : o = [35]
        · subst ho35; simp at e2; simp [e, e2, bothL, oD, p1, h35]
        · have e' : (some o == some [35]) = false := by simpa using ho35
          rw [e'] at e2
          by_cases hm : w = o ∨ w = [43] ∨ o = [43]
          · have hc : (!(w == o) && !(w == [43] || o == [43])) = false := by
              rcases hm with rfl | rfl | rfl <;> simp
            have ih := h ws os st (by simpa using hk) (by simp at hlw; omega) (by simp at hlo; omega) hw.tail ho.tail
            have hlv : (if w = [43] then o else w) ≠ [35] := by split <;> assumption
            have p3 := hp [if w = [43] then o else w] st (by simp)
            rw [plainL_cons hlv] at p3
            simp only [List.map_cons, List.map_nil, plainL, List.filter_nil] at p3
            cases hb : bothL ws os with
            | none =>
              rw [hb] at ih
              simp [e, e2, bothL, oD, h35, ho35, plus_notIn, hc, ih, hm, hb]
            | some r =>
              rw [hb] at ih
              have hl := bothL_len ws os r hb
              have hl' : (1 : Nat) + r.length ≤ 16777216 := by simp at hlw hlo; omega
              have ct := cat3_ok (a := [D.str (plain1 (if w = [43] then o else w))]) (b := r.map D.str) (st := st) (by simpa using hl')
              simp [e, e2, bothL, oD, h35, ho35, plus_notIn, hc, ih, hm, hb]
              simp [p3, ct]
              exact fun a b => (hm.resolve_left a).resolve_left b
          · have hc : (!(w == o) && !(w == [43] || o == [43])) = true := by
              simp only [not_or] at hm
              simp [hm.1, hm.2.1, hm.2.2]
            simp [e, e2, bothL, oD, h35, ho35, plus_notIn, hc, hm]
            intro h'
            rw [not_or, not_or] at hm
            exact absurd (h' hm.1 hm.2.1) hm.2.2
def gCovers (c : Calls) (iw iwd icl : Nat) : SM := sSeq (sExpr (xCall c iw (aCons (xVar 0) (aNil))))
    (sSeq (sExpr (xCall c iw (aCons (xVar 1) (aNil))))
    (sSeq (sSet 2 (xLst (lSplit (xVar 0) (xC (.str [47])))))
    (sSeq (sSet 3 (xLst (lSplit (xVar 1) (xC (.str [47])))))
    (sSeq (sIf (xBin oIn (xVar 3) (xTup (aCons (xLst (lLst (aCons (xC (.str [35])) (aNil)))) (aCons (xLst (lLst (aCons (xC (.str [])) (aCons (xC (.str [35])) (aNil))))) (aNil))))) (sSet 3 (xLst (lCat (xLst (lSl (xVar 3) none (some (xNeg (xC (.int 1)))))) (xLst (lLst (aCons (xC (.str [43])) (aCons (xC (.str [35])) (aNil)))))))) (sSkip))
    (sRet (xAnd (xNot (xAnd (xCall c iwd (aCons (xBin oIx (xVar 2) (xC (.int 0))) (aNil))) (xBm isStr oStarts (xVar 1) (xC (.str [36]))))) (xCall c icl (aCons (xVar 2) (aCons (xVar 3) (aNil))))))))))
/-- does a wish cover another -/
def covB (w o : List Nat) : Bool := covV (splitL 47 w) (splitL 47 o)
def CoversF (F : FF) : Prop := ∀ (w o : List Nat) (st : St), w.length ≤ 16777000 → o.length ≤ 16777000 → F [.str w, .str o] st = if isWs w = true then (if isWs o = true then .ok (.bl (covB w o)) st else .exn 1 st) else .exn 1 st
theorem okC_ws {w : List Nat} (h : isWs w = true) : okC (splitL 47 w) := fun p hp c hc => by have := isWs_lt h p hp c hc; omega
theorem strs_pu {a : List (List Nat)} (ha : okC a) : (D.lst (a.map D.str)).pu 20 = true := by
  simp only [D.pu, List.all_eq_true, List.mem_map, forall_exists_index, and_imp, decide_eq_true_eq]
  rintro _ p hp rfl
  simp only [D.pu, List.all_eq_true, decide_eq_true_eq]
  exact ha p hp
theorem fix_in {os : List (List Nat)} (h : okC os) (st : St) : oIn (.lst (os.map D.str)) (.tup [.lst [.str [35]], .lst [.str [], .str [35]]]) st = some (.bl (decide (os = [[35]] ∨ os = [[], [35]]))) := by
  show (inT _ _).map D.bl = _
  unfold inT
  rw [if_neg (by simp [D.flat]), if_pos (by rw [strs_pu h]; rfl)]
  have e : ∀ a : List (List Nat), D.eqv (.lst (a.map D.str)) (.lst (os.map D.str)) = (a == os) := fun a => eqvL_strs a os
  have e1 := e [[35]]
  have e2 := e [[], [35]]
  simp only [List.map_cons, List.map_nil] at e1 e2
  simp only [List.any_cons, List.any_nil, e1, e2, Option.map_some, Bool.or_false]
  congr 2
  rw [Bool.eq_iff_iff]
  simp only [Bool.or_eq_true, beq_iff_eq, decide_eq_true_eq]
  constructor <;> rintro (h | h) <;> simp [h]
theorem g_covers {c : Calls} {iw iwd icl k : Nat} (hw : LookWishF (c iw)) (hd : IsWideF (c iwd)) (hf : CovLF k (c icl)) (hk : 8 < k) : CoversF (body 2 4 (gCovers c iw iwd icl)) := by
  intro w o st hlw hlo
  rw [ap_body (by rfl)]
  unfold gCovers
  have hw1 := hw w st hlw
  have hw2 := hw o st hlo
  by_cases g1 : isWs w = true
  · rw [if_pos g1] at hw1 ⊢
    by_cases g2 : isWs o = true
    · rw [if_pos g2] at hw2 ⊢
      have sw := spl2_ok (s := w) (c := 47) (st := st) (by omega) (by decide)
      have so := spl2_ok (s := o) (c := 47) (st := st) (by omega) (by decide)
      have cw := okC_ws g1
      have co := okC_ws g2
      have l8 := isWs_len g1
      have l8o := isWs_len g2
      have fi := fix_in co st
      have ds : d0 (splitL 47 o) = [36].isPrefixOf o := head_sign o
      unfold covB covV
      rw [ds]
      obtain ⟨a, ar, hws⟩ := List.exists_cons_of_ne_nil (splitL_ne 47 w)
      rw [hws] at sw cw l8 ⊢
      generalize splitL 47 o = os at *
      have cl := fun os => hf (a :: ar) os st (by omega) cw
      simp only [List.map_cons] at sw cl
      unfold fixL
      by_cases e : os = [[35]] ∨ os = [[], [35]]
      · rw [if_pos e]
        rw [decide_eq_true e] at fi
        have ct := cat3_ok (a := (os.map D.str).dropLast) (b := [D.str [43], D.str [35]]) (st := st) (by simp; omega)
        have cl' := cl (os.dropLast ++ [[43], [35]])
        rw [List.map_append, List.map_dropLast] at cl'
        simp only [List.map_cons, List.map_nil] at cl'
        simp [hw1, hw2, sw, so, fi, hd a st, ct, cl', w0]
      · rw [if_neg e]
        rw [decide_eq_false e] at fi
        simp [hw1, hw2, sw, so, fi, hd a st, cl, w0]
    · rw [if_neg g2] at hw2 ⊢
      simp [hw1, hw2]
  · rw [if_neg g1] at hw1 ⊢
    simp [hw1]
def gMeeting (c : Calls) (iw iwd ibl ifi : Nat) : SM := sSeq (sExpr (xCall c iw (aCons (xVar 0) (aNil))))
    (sSeq (sExpr (xCall c iw (aCons (xVar 1) (aNil))))
    (sSeq (sSet 2 (xLst (lSplit (xVar 0) (xC (.str [47])))))
    (sSeq (sSet 3 (xLst (lSplit (xVar 1) (xC (.str [47])))))
    (sSeq (sIf (xOr (xAnd (xCall c iwd (aCons (xBin oIx (xVar 2) (xC (.int 0))) (aNil))) (xBm isStr oStarts (xVar 1) (xC (.str [36])))) (xAnd (xCall c iwd (aCons (xBin oIx (xVar 3) (xC (.int 0))) (aNil))) (xBm isStr oStarts (xVar 0) (xC (.str [36]))))) (sRet (xC .non)) (sSkip))
    (sSeq (sSet 4 (xCall c ibl (aCons (xVar 2) (aCons (xVar 3) (aNil)))))
    (sSeq (sIf (xBin oEq (xVar 4) (xLst (lLst (aNil)))) (sRet (xC (.str [97]))) (sSkip))
    (sSeq (sIf (xBin oEq (xVar 4) (xLst (lLst (aCons (xC (.str [])) (aNil))))) (sRet (xIf (xAnd (xCall c ifi (aCons (xVar 0) (aCons (xC (.str [47, 97])) (aNil)))) (xCall c ifi (aCons (xVar 1) (aCons (xC (.str [47, 97])) (aNil))))) (xC (.str [47, 97])) (xC .non))) (sSkip))
    (sRet (xIf (xBin oIs (xVar 4) (xC .non)) (xC .non) (xBm isStr oJoin (xC (.str [47])) (xVar 4)))))))))))
def oS : Option (List (List Nat)) → D
  | none => .non
  | some r => .str (joinS [47] r)
def meetB (w o : List Nat) : Option (List (List Nat)) := meetV (splitL 47 w) (splitL 47 o)
def MeetingF (F : FF) : Prop := ∀ (w o : List Nat) (st : St), w.length ≤ 10000 → o.length ≤ 10000 → F [.str w, .str o] st = if isWs w = true then (if isWs o = true then .ok (oS (meetB w o)) st else .exn 1 st) else .exn 1 st
theorem isLv_okC {r : List (List Nat)} (h : ∀ p ∈ r, isLv p = true) : okC r := fun p hp c hc => by have := isLv_lt (h p hp) c hc; omega
theorem g_meeting {c : Calls} {iw iwd ibl ifi k : Nat} (hw : LookWishF (c iw)) (hd : IsWideF (c iwd)) (hb : BothLF k (c ibl)) (hf : FitsF (c ifi)) (hk : 8 < k) : MeetingF (body 2 5 (gMeeting c iw iwd ibl ifi)) := by
  intro w o st hlw hlo
  rw [ap_body (by rfl)]
  unfold gMeeting
  have hw1 := hw w st (by omega)
  have hw2 := hw o st (by omega)
  by_cases g1 : isWs w = true
  · rw [if_pos g1] at hw1 ⊢
    by_cases g2 : isWs o = true
    · rw [if_pos g2] at hw2 ⊢
      have sw := spl2_ok (s := w) (c := 47) (st := st) (by omega) (by decide)
      have so := spl2_ok (s := o) (c := 47) (st := st) (by omega) (by decide)
      have cw := okC_ws g1
      have co := okC_ws g2
      have gw := gw_of g1
      have go := gw_of g2
      have l8 := isWs_len g1
      have l8o := isWs_len g2
      have d1 : d0 (splitL 47 o) = [36].isPrefixOf o := head_sign o
      have d2 : d0 (splitL 47 w) = [36].isPrefixOf w := head_sign w
      have f1 := hf w [47, 97] st (by omega) (by simp)
      have f2 := hf o [47, 97] st (by omega) (by simp)
      rw [if_pos g1, if_pos (by decide), fitB_V, show splitL 47 [47, 97] = [[], [97]] from by decide] at f1
      rw [if_pos g2, if_pos (by decide), fitB_V, show splitL 47 [47, 97] = [[], [97]] from by decide] at f2
      unfold meetB meetV
      rw [d1, d2]
      obtain ⟨a, ar, hws⟩ := List.exists_cons_of_ne_nil (splitL_ne 47 w)
      obtain ⟨b, br, hos⟩ := List.exists_cons_of_ne_nil (splitL_ne 47 o)
      rw [hws] at sw cw l8 f1 gw ⊢
      rw [hos] at so co l8o f2 go ⊢
      have bl := hb (a :: ar) (b :: br) st (by omega) (by omega) (by omega) cw co
      simp only [List.map_cons] at sw so bl
      by_cases hc : ((isWideB a && [36].isPrefixOf o) || (isWideB b && [36].isPrefixOf w)) = true
      · simp only [w0, List.head?_cons, Option.any_some, hc, if_true]
        simp [hw1, hw2, sw, so, hd a st, hd b st, oS]
        have hp : (isWideB a = true ∧ [36] <+: o) ∨ (isWideB b = true ∧ [36] <+: w) := by simpa using hc
        intro x y
        rcases hp with ⟨h1, h2⟩ | ⟨h1, h2⟩
        · exact absurd h2 (x h1)
        · exact absurd h2 (y h1)
      · rw [Bool.not_eq_true] at hc
        have hc' := hc
        simp only [w0, List.head?_cons, Option.any_some, hc, Bool.false_eq_true, if_false]
        cases hbo : bothL (a :: ar) (b :: br) with
        | none =>
          rw [hbo] at bl
          have e1 : oEq (oD none) (.lst []) st = some (.bl false) := rfl
          have e2 : oEq (oD none) (.lst [.str []]) st = some (.bl false) := rfl
          have e3 : oIs (oD none) .non st = some (.bl true) := rfl
          simp [hw1, hw2, sw, so, hd a st, hd b st, bl, e1, e2, e3, oS]
        | some r =>
          rw [hbo] at bl
          simp [hw1, hw2, sw, so, hd a st, hd b st, bl, oS]
          have hp : ¬ ((isWideB a = true ∧ [36] <+: o) ∨ (isWideB b = true ∧ [36] <+: w)) := by
            intro h
            rcases h with ⟨h1, h2⟩ | ⟨h1, h2⟩ <;> simp [h1, List.isPrefixOf_iff_prefix.mpr h2] at hc
          rw [if_neg hp]
          obtain ⟨_, _, rl, _⟩ := both_fit _ _ _ gw go hbo
          have rc := isLv_okC rl
          have rlen := bothL_len _ _ _ hbo
          have e1 := oEq_strs (a := r) (b := []) (st := st) rc (by simp)
          have e2 := oEq_strs (a := r) (b := [[]]) (st := st) rc (by simp)
          simp only [List.map_nil, List.map_cons] at e1 e2
          have jn : oJoin (.str [47]) (.lst (r.map D.str)) st = some (.str (joinS [47] r)) := oJoin_le 8 12 rfl (by omega) (fun p hp => by
            have := rl p hp
            unfold isLv at this
            simp only [Bool.and_eq_true, decide_eq_true_eq] at this
            exact this.1) (by decide)
          by_cases r0 : r = []
          · subst r0
            simp at e1
            simp [oD, e1, joinS]
          · have r0' : (r == []) = false := by simpa using r0
            rw [r0'] at e1
            by_cases r1 : r = [[]]
            · subst r1
              simp at e2 e1
              simp [oD, e1, e2, f1, f2]
              split <;> rfl
            · have r1' : (r == [[]]) = false := by simpa using r1
              rw [r1'] at e2
              simp [oD, e1, e2, r0, r1, jn]
    · rw [if_neg g2] at hw2 ⊢
      simp [hw1, hw2]
  · rw [if_neg g1] at hw1 ⊢
    simp [hw1]
end TH.Q
end
section
set_option linter.all false
set_option autoImplicit false
/-! TH14: covering and meeting, said of texts. Plain Lean. -/
namespace TH.Q
open TH
theorem nm_ne {n : List Nat} (h : isNm n = true) : splitL 47 n ≠ [] ∧ splitL 47 n ≠ [[]] := by
  refine ⟨splitL_ne 47 n, fun e => ?_⟩
  unfold isNm at h
  rw [Bool.and_eq_true] at h
  have h1 := h.1
  cases n with
  | nil => cases h1
  | cons a r =>
    by_cases ha : a = 47
    · subst ha; rw [splitL_same] at e
      have := splitL_ne 47 r
      cases hs : splitL 47 r with
      | nil => exact this hs
      | cons p ps => rw [hs] at e; cases e
    · obtain ⟨p, ps, _, h2⟩ := splitL_cons 47 a r ha
      rw [h2] at e; cases e
theorem ws_ne {n : List Nat} (h : isWs n = true) : splitL 47 n ≠ [] ∧ splitL 47 n ≠ [[]] := by
  refine ⟨splitL_ne 47 n, fun e => ?_⟩
  unfold isWs at h
  rw [Bool.and_eq_true] at h
  have h1 := h.1
  cases n with
  | nil => cases h1
  | cons a r =>
    by_cases ha : a = 47
    · subst ha; rw [splitL_same] at e
      have := splitL_ne 47 r
      cases hs : splitL 47 r with
      | nil => exact this hs
      | cons p ps => rw [hs] at e; cases e
    · obtain ⟨p, ps, _, h2⟩ := splitL_cons 47 a r ha
      rw [h2] at e; cases e
theorem join_ne {r : List (List Nat)} (h : r ≠ []) (h' : r ≠ [[]]) : joinS [47] r ≠ [] := by
  cases r with
  | nil => exact absurd rfl h
  | cons p ps =>
    cases ps with
    | nil => intro e; exact h' (by rw [show p = [] from e])
    | cons q qs => rw [joinS_cons]; simp
/-- levels joined make a name -/
theorem join_nm {r : List (List Nat)} (h : r ≠ []) (h' : r ≠ [[]]) (hl : ∀ p ∈ r, isLv p = true) (h47 : ∀ p ∈ r, 47 ∉ p) (h8 : r.length ≤ 8) : isNm (joinS [47] r) = true := by
  unfold isNm
  rw [split_join 47 r h h47]
  have := join_ne h h'
  have e : (joinS [47] r).isEmpty = false := by
    cases hj : joinS [47] r with
    | nil => exact absurd hj this
    | cons a b => rfl
  rw [e]
  simp only [Bool.not_false, Bool.true_and, Bool.and_eq_true, decide_eq_true_eq, List.all_eq_true]
  exact ⟨h8, hl⟩
theorem plainL_mem {p : List Nat} {os : List (List Nat)} (h : p ∈ plainL os) : p = [97] ∨ p ∈ os := by
  unfold plainL at h
  obtain ⟨q, hq, rfl⟩ := List.mem_map.mp h
  unfold plain1
  split
  · exact .inl rfl
  · exact .inr (List.mem_filter.mp hq).1
theorem plain1_mem (p : List Nat) : plain1 p = [97] ∨ plain1 p = p := by
  unfold plain1
  split
  · exact .inl rfl
  · exact .inr rfl
theorem both_mem : ∀ (ws os r : List (List Nat)), bothL ws os = some r → ∀ p ∈ r, p = [97] ∨ p ∈ ws ∨ p ∈ os
  | [], os, r, h => by
    unfold bothL at h
    split at h
    · cases h; simp
    · split at h
      · cases h; simp
      · cases h
  | w :: ws, os, r, h => by
    unfold bothL at h
    split at h
    · cases h
      intro p hp
      rcases plainL_mem hp with e | e
      · exact .inl e
      · exact .inr (.inr e)
    · cases os with
      | nil => cases h
      | cons o os =>
        simp only at h
        split at h
        · cases h
          intro p hp
          rcases plainL_mem hp with e | e
          · exact .inl e
          · exact .inr (.inl e)
        · split at h
          · obtain ⟨q, hq, rfl⟩ := Option.map_eq_some_iff.mp h
            intro p hp
            rcases List.mem_cons.mp hp with rfl | hp
            · rcases plain1_mem (if w = [43] then o else w) with e | e
              · exact .inl e
              · rw [e]; split
                · exact .inr (.inr List.mem_cons_self)
                · exact .inr (.inl List.mem_cons_self)
            · rcases both_mem ws os q hq p hp with e | e | e
              · exact .inl e
              · exact .inr (.inl (List.mem_cons_of_mem _ e))
              · exact .inr (.inr (List.mem_cons_of_mem _ e))
          · cases h
theorem meet_47 {ws os r : List (List Nat)} (h1 : ∀ p ∈ ws, 47 ∉ p) (h2 : ∀ p ∈ os, 47 ∉ p) (h : meetV ws os = some r) : ∀ p ∈ r, 47 ∉ p := by
  unfold meetV at h
  split at h
  · cases h
  · cases hb : bothL ws os with
    | none => rw [hb] at h; cases h
    | some q =>
      rw [hb] at h
      simp only at h
      split at h
      · cases h; decide
      · split at h
        · split at h
          · cases h; decide
          · cases h
        · cases h
          intro p hp
          rcases both_mem _ _ _ hb p hp with rfl | e | e
          · decide
          · exact h1 p e
          · exact h2 p e
/-- what meeting tells is a name that both fit -/
theorem meetB_name {w o : List Nat} {r : List (List Nat)} (gw : isWs w = true) (go : isWs o = true) (h : meetB w o = some r) :
    isNm (joinS [47] r) = true ∧ fitB w (joinS [47] r) = true ∧ fitB o (joinS [47] r) = true ∧ (joinS [47] r).length ≤ 200 := by
  unfold meetB at h
  obtain ⟨a, b, hl, h8, n0, n1⟩ := meet_sound (gw_of gw) (gw_of go) (ws_ne gw).1 (ws_ne go).1 h
  have h47 := meet_47 (splitL_not 47 w) (splitL_not 47 o) h
  have lw := isWs_len gw
  have lo := isWs_len go
  refine ⟨join_nm n0 n1 hl h47 (by omega), ?_, ?_, ?_⟩
  · rw [fitB_V, split_join 47 r n0 h47]; exact a
  · rw [fitB_V, split_join 47 r n0 h47]; exact b
  · have := joinS_len [47] r 12 fun p hp => by
      have := hl p hp
      unfold isLv at this
      simp only [Bool.and_eq_true, decide_eq_true_eq] at this
      exact this.1
    have e : r.length * (12 + 1) ≤ 8 * 13 := Nat.mul_le_mul_right _ (by omega)
    simp only [List.length_cons, List.length_nil] at this
    omega
theorem covB_sound {w o n : List Nat} (gn : isNm n = true) (h : covB w o = true) (f : fitB o n = true) : fitB w n = true := by
  rw [fitB_V] at *
  exact cov_sound (nm_ne gn).1 (nm_ne gn).2 h f
theorem covB_self {w : List Nat} (g : isWs w = true) : covB w w = true := cov_self (gw_of g)
theorem covB_trans {w o t : List Nat} (gw : isWs w = true) (gt : isWs t = true) (a : covB w o = true) (b : covB o t = true) : covB w t = true :=
  cov_trans (gw_of gw) (gw_of gt) (isWs_len gw) (ws_ne gt).1 (ws_ne gt).2 a b
theorem covB_meet {w o : List Nat} (gw : isWs w = true) (go : isWs o = true) (h : covB w o = true) : (∃ r, meetB w o = some r) ∧ ∃ r, meetB o w = some r :=
  cov_meet (gw_of gw) (gw_of go) (ws_ne go).1 (ws_ne go).2 h
theorem meetB_symm {w o : List Nat} {r : List (List Nat)} (gw : isWs w = true) (go : isWs o = true) (h : meetB w o = some r) : ∃ r, meetB o w = some r :=
  meet_symm (gw_of gw) (gw_of go) (ws_ne gw).1 (ws_ne go).1 h
theorem meetB_some {w o n : List Nat} (gw : isWs w = true) (go : isWs o = true) (gn : isNm n = true) (f1 : fitB w n = true) (f2 : fitB o n = true) : ∃ r, meetB w o = some r := by
  rw [fitB_V] at *
  exact meet_some (gw_of gw) (gw_of go) (nm_ne gn).1 (nm_ne gn).2 f1 f2
end TH.Q
end
section
set_option linter.all false
set_option autoImplicit false
/-! TH9b: how more combinators run. Plain Lean. -/
namespace TH.Q
open TH
/-! ### the store -/
theorem gset (st : St) (n : Nat) (o : Ob) (j : Nat) : (st.set n o)[j]? = if n = j then (if j < st.length then some o else none) else st[j]? := by
  rw [List.getElem?_set]
  by_cases h : n = j
  · subst h; simp
  · simp [h]
theorem gapp (st : St) (o : Ob) (j : Nat) : (st ++ [o])[j]? = if j < st.length then st[j]? else if j = st.length then some o else none := by
  rw [List.getElem?_append]
  by_cases h : j < st.length
  · simp only [if_pos h]
  · rw [if_neg h, if_neg h]
    by_cases e : j = st.length
    · subst e; simp
    · rw [if_neg e]
      obtain ⟨m, hm⟩ : ∃ m, j - st.length = m + 1 := ⟨j - st.length - 1, by omega⟩
      rw [hm]; rfl
theorem app1o {g : EM} {env : Env} {n : Nat} {st : St} : (∃ l, st[n]? = some (.ml l)) → app1 g env (.ref n) st = (g env st).bind (app2 n) := fun ⟨_, h⟩ => app1_ok h
theorem app3o {l : List D} {n : Nat} {y : D} {st : St} (h : l.length < 16777216) : app3 (some (.ml l)) n y st = .ok .non (st.set n (.ml (l ++ [y]))) := app3_ok h
theorem oIx0_ref (n : Nat) (st : St) : oIx (.ref n) (.int 0) st = (asO st[n]?).bind List.head? := by
  show (match asL st (.ref n) with | some l => (ixN l.length 0).bind fun j => l[j]? | none => none) = _
  rw [asL_ref]
  cases asO st[n]? with
  | none => rfl
  | some l => show ((ixN l.length ((0 : Nat) : Int)).bind fun j => l[j]?) = _; rw [ix_nat]; exact List.head?_eq_getElem?.symm
theorem oIxm1_ref (n : Nat) (st : St) : oIx (.ref n) (.int (-1)) st = (asO st[n]?).bind List.getLast? := by
  show (match asL st (.ref n) with | some l => (ixN l.length (-1)).bind fun j => l[j]? | none => none) = _
  rw [asL_ref]
  cases asO st[n]? with
  | none => rfl
  | some l => exact ix_m1 l
/-! ### extend, pop(i) -/
def ext3 (o : Option Ob) (ys : Option (List D)) (n : Nat) (st : St) : RE := match o with
  | some (.ml l) => match ys with
    | some zs => if l.length + zs.length ≤ LN then .ok .non (st.set n (.ml (l ++ zs))) else .stuck
    | none => .stuck
  | _ => .stuck
def ext2 (n : Nat) (y : D) (st : St) : RE := ext3 st[n]? (asL st y) n st
def ext1 (g : EM) (env : Env) (x : D) (st : St) : RE := if isLst x st then (match x with
  | .ref n => (g env st).bind (ext2 n)
  | _ => (g env st).bind fun _ _ => .stuck) else .stuck
@[simp] theorem ap_ext (f g : EM) (env : Env) (st : St) : xExt f g env st = (f env st).bind (ext1 g env) := by
  show (f env st).bind _ = _
  congr 1; funext x st; unfold ext1
  split
  · cases x <;> rfl
  · rfl
@[simp] theorem ap_ext2 (n : Nat) (y : D) (st : St) : ext2 n y st = ext3 st[n]? (asL st y) n st := id rfl
theorem ext1o {g : EM} {env : Env} {n : Nat} {st : St} : (∃ l, st[n]? = some (.ml l)) → ext1 g env (.ref n) st = (g env st).bind (ext2 n) := fun ⟨l, h⟩ => by
  unfold ext1 isLst; rw [asL_ref, h]; rfl
theorem ext3o {l zs : List D} {n : Nat} {st : St} (h : l.length + zs.length ≤ 16777216) : ext3 (some (.ml l)) (some zs) n st = .ok .non (st.set n (.ml (l ++ zs))) := if_pos h
def popi3 (o : Option Ob) (n : Nat) (i : Int) (st : St) : RE := match o with
  | some (.ml l) => match ixN l.length i with
    | some j => if l.length ≤ LN then (match l[j]? with
      | some d => .ok d (st.set n (.ml (l.eraseIdx j)))
      | none => .stuck) else .stuck
    | none => .stuck
  | _ => .stuck
def popi2 (n : Nat) (y : D) (st : St) : RE := match y with
  | .int i => popi3 st[n]? n i st
  | _ => .stuck
def popi1 (g : EM) (env : Env) (x : D) (st : St) : RE := if isLst x st then (match x with
  | .ref n => (g env st).bind (popi2 n)
  | _ => (g env st).bind fun _ _ => .stuck) else .stuck
@[simp] theorem ap_popi (f g : EM) (env : Env) (st : St) : xPopI f g env st = (f env st).bind (popi1 g env) := by
  show (f env st).bind _ = _
  congr 1; funext x st; unfold popi1
  split
  · cases x with
    | ref n =>
      simp only
      congr 1; funext y st
      cases y <;> rfl
    | _ => rfl
  · rfl
@[simp] theorem ap_popi2 (n : Nat) (i : Int) (st : St) : popi2 n (.int i) st = popi3 st[n]? n i st := id rfl
theorem popi1o {g : EM} {env : Env} {n : Nat} {st : St} : (∃ l, st[n]? = some (.ml l)) → popi1 g env (.ref n) st = (g env st).bind (popi2 n) := fun ⟨l, h⟩ => by
  unfold popi1 isLst; rw [asL_ref, h]; rfl
theorem popi3o {d : D} {l : List D} {n : Nat} {st : St} (h : l.length < 16777216) : popi3 (some (.ml (d :: l))) n 0 st = .ok d (st.set n (.ml l)) := by
  unfold popi3
  have e : ixN (d :: l).length 0 = some 0 := by
    have := ixN_nat (d :: l).length 0
    rw [if_pos (by simp)] at this
    exact this
  simp only [e]
  rw [if_pos (show (d :: l).length ≤ LN by show l.length + 1 ≤ 16777216; omega)]
  rfl
/-! ### str(i) -/
theorem bStr_int {n : Nat} {st : St} (h : n < 2 ^ 64) : bStr [.int (n : Int)] st = some (.str (figs n)) := by
  unfold bStr
  simp only
  rw [if_pos ⟨by omega, by omega⟩, Int.toNat_natCast]
/-! ### in, of deep data -/
theorem inL_pu {x : D} {l : List D} (hf : x.flat = false) (hx : x.pu 20 = true) (hl : l.all (D.pu 20) = true) : inL x l = some (l.any fun y => y.eqv x) := by
  unfold inL; rw [hf, hx, hl]; simp
theorem oIn_pu {x : D} {l : List D} {st : St} (hf : x.flat = false) (hx : x.pu 20 = true) (hl : l.all (D.pu 20) = true) : oIn x (.lst l) st = some (.bl (l.any fun y => y.eqv x)) := by
  show (inL x l).map D.bl = _
  rw [inL_pu hf hx hl]; rfl
theorem oIn_ref {x : D} {n : Nat} {st : St} {l : List D} (h : asO st[n]? = some l) : oIn x (.ref n) st = oIn x (.lst l) st := by
  have : asL st (.ref n) = some l := by rw [asL_ref]; exact h
  show (match asL st (.ref n) with | some l => (inL x l).map D.bl | none => none) = _
  rw [this]; rfl
theorem oNotIn_of {x y : D} {b : Bool} {st : St} (h : oIn x y st = some (.bl b)) : oNotIn x y st = some (.bl (!b)) := by
  unfold oNotIn; rw [h]
/-! ### dicts -/
def kO (o : Option Ob) : Option (Bool × List (D × D)) := match o with
  | some (.md t kvs) => some (t, kvs)
  | some (.mdl t kvs) => some (t, kvs)
  | _ => none
@[simp] theorem asK_ref (st : St) (n : Nat) : asK st (.ref n) = kO st[n]? := by
  show (match st[n]? with | some (.md t kvs) => some (t, kvs) | some (.mdl t kvs) => some (t, kvs) | _ => none) = _; rfl
@[simp] theorem kO_md (t : Bool) (kvs : List (D × D)) : kO (some (.md t kvs)) = some (t, kvs) := id rfl
@[simp] theorem kO_mdl (t : Bool) (kvs : List (D × D)) : kO (some (.mdl t kvs)) = some (t, kvs) := id rfl
@[simp] theorem ap_dnew (t : Bool) (env : Env) (st : St) : xDNew t env st = .ok (.ref st.length) (st ++ [.md t []]) := id rfl
def disp1 (ks : List (List Nat)) (ds : List D) (st : St) : RE := if ds.length = ks.length ∧ ks.length ≤ 15 ∧ ks.Nodup then .ok (.ref st.length) (st ++ [.md false ((ks.map D.str).zip ds)]) else .stuck
@[simp] theorem ap_disp (ks : List (List Nat)) (a : AM) (env : Env) (st : St) : xDisp ks a env st = (a env st).bind (disp1 ks) := id rfl
def dget3 (o : Option (Bool × List (D × D))) (y : D) (st : St) : RE := match o with
  | some (t, kvs) => if keyOk t y then ofO (dlook kvs y) st else .stuck
  | none => .stuck
def dget2 (x : D) (y : D) (st : St) : RE := dget3 (asK st x) y st
def dget1 (g : EM) (env : Env) (x : D) (st : St) : RE := (g env st).bind (dget2 x)
@[simp] theorem ap_dget (f g : EM) (env : Env) (st : St) : xDGet f g env st = (f env st).bind (dget1 g env) := by
  show (f env st).bind _ = _
  congr 1
@[simp] theorem ap_dget1 (g : EM) (env : Env) (x : D) (st : St) : dget1 g env x st = (g env st).bind (dget2 x) := id rfl
@[simp] theorem ap_dget2 (x y : D) (st : St) : dget2 x y st = dget3 (asK st x) y st := id rfl
@[simp] theorem ap_dget3 (t : Bool) (kvs : List (D × D)) (y : D) (st : St) : dget3 (some (t, kvs)) y st = if keyOk t y = true then ofO (dlook kvs y) st else .stuck := id rfl
def din3 (o : Option (Bool × List (D × D))) (y : D) (st : St) : RE := match o with
  | some (t, kvs) => if keyOk t y then .ok (.bl (dlook kvs y).isSome) st else .stuck
  | none => .stuck
def din2 (y x : D) (st : St) : RE := din3 (asK st x) y st
def din1 (f : EM) (env : Env) (y : D) (st : St) : RE := (f env st).bind (din2 y)
@[simp] theorem ap_din (g f : EM) (env : Env) (st : St) : xDIn g f env st = (g env st).bind (din1 f env) := by
  show (g env st).bind _ = _
  congr 1
@[simp] theorem ap_din1 (f : EM) (env : Env) (y : D) (st : St) : din1 f env y st = (f env st).bind (din2 y) := id rfl
@[simp] theorem ap_din2 (y x : D) (st : St) : din2 y x st = din3 (asK st x) y st := id rfl
@[simp] theorem ap_din3 (t : Bool) (kvs : List (D × D)) (y : D) (st : St) : din3 (some (t, kvs)) y st = if keyOk t y = true then .ok (.bl (dlook kvs y).isSome) st else .stuck := id rfl
def dnin3 (o : Option (Bool × List (D × D))) (y : D) (st : St) : RE := match o with
  | some (t, kvs) => if keyOk t y then .ok (.bl (!(dlook kvs y).isSome)) st else .stuck
  | none => .stuck
def dnin2 (y x : D) (st : St) : RE := dnin3 (asK st x) y st
def dnin1 (f : EM) (env : Env) (y : D) (st : St) : RE := (f env st).bind (dnin2 y)
@[simp] theorem ap_dnin (g f : EM) (env : Env) (st : St) : xDNotIn g f env st = (g env st).bind (dnin1 f env) := by
  show (g env st).bind _ = _
  congr 1
@[simp] theorem ap_dnin1 (f : EM) (env : Env) (y : D) (st : St) : dnin1 f env y st = (f env st).bind (dnin2 y) := id rfl
@[simp] theorem ap_dnin2 (y x : D) (st : St) : dnin2 y x st = dnin3 (asK st x) y st := id rfl
@[simp] theorem ap_dnin3 (t : Bool) (kvs : List (D × D)) (y : D) (st : St) : dnin3 (some (t, kvs)) y st = if keyOk t y = true then .ok (.bl (!(dlook kvs y).isSome)) st else .stuck := id rfl
def dgd4 (o : Option (Bool × List (D × D))) (y z : D) (st : St) : RE := match o with
  | some (t, kvs) => if keyOk t y then .ok ((dlook kvs y).getD z) st else .stuck
  | none => .stuck
def dgd3 (x y z : D) (st : St) : RE := dgd4 (asK st x) y z st
def dgd2 (h : EM) (env : Env) (x y : D) (st : St) : RE := (h env st).bind (dgd3 x y)
def dgd1 (g h : EM) (env : Env) (x : D) (st : St) : RE := if isDct x st then (g env st).bind (dgd2 h env x) else .stuck
@[simp] theorem ap_dgd (f g h : EM) (env : Env) (st : St) : xDGet2 f g h env st = (f env st).bind (dgd1 g h env) := by
  show (f env st).bind _ = _
  congr 1
theorem dgd1o {g h : EM} {env : Env} {n : Nat} {st : St} : (∃ t kvs, st[n]? = some (.md t kvs)) → dgd1 g h env (.ref n) st = (g env st).bind (dgd2 h env (.ref n)) := fun ⟨t, kvs, e⟩ => by
  unfold dgd1 isDct; rw [asK_ref, e]; rfl
@[simp] theorem ap_dgd2 (h : EM) (env : Env) (x y : D) (st : St) : dgd2 h env x y st = (h env st).bind (dgd3 x y) := id rfl
@[simp] theorem ap_dgd3 (x y z : D) (st : St) : dgd3 x y z st = dgd4 (asK st x) y z st := id rfl
@[simp] theorem ap_dgd4 (t : Bool) (kvs : List (D × D)) (y z : D) (st : St) : dgd4 (some (t, kvs)) y z st = if keyOk t y = true then .ok ((dlook kvs y).getD z) st else .stuck := id rfl
def dpp3 (o : Option Ob) (n : Nat) (y : D) (st : St) : RE := match o with
  | some (.md t kvs) => if keyOk t y then (match dlook kvs y with
      | some v => .ok v (st.set n (.md t (ddrop kvs y)))
      | none => .stuck) else .stuck
  | _ => .stuck
def dpp2 (n : Nat) (y : D) (st : St) : RE := dpp3 st[n]? n y st
def dpp1 (g : EM) (env : Env) (x : D) (st : St) : RE := if isDct x st then (match x with
  | .ref n => (g env st).bind (dpp2 n)
  | _ => (g env st).bind fun _ _ => .stuck) else .stuck
@[simp] theorem ap_dpp (f g : EM) (env : Env) (st : St) : xDPop1 f g env st = (f env st).bind (dpp1 g env) := by
  show (f env st).bind _ = _
  congr 1; funext x st; unfold dpp1
  split
  · cases x <;> rfl
  · rfl
theorem dpp1o {g : EM} {env : Env} {n : Nat} {st : St} : (∃ t kvs, st[n]? = some (.md t kvs)) → dpp1 g env (.ref n) st = (g env st).bind (dpp2 n) := fun ⟨t, kvs, e⟩ => by
  unfold dpp1 isDct; rw [asK_ref, e]; rfl
@[simp] theorem ap_dpp2 (n : Nat) (y : D) (st : St) : dpp2 n y st = dpp3 st[n]? n y st := id rfl
theorem dpp3o {t : Bool} {kvs : List (D × D)} {n : Nat} {y v : D} {st : St} (hk : keyOk t y = true) (hv : dlook kvs y = some v) : dpp3 (some (.md t kvs)) n y st = .ok v (st.set n (.md t (ddrop kvs y))) := by
  unfold dpp3; simp only [hk, hv, if_true]
def dpd4 (o : Option Ob) (n : Nat) (y z : D) (st : St) : RE := match o with
  | some (.md t kvs) => if keyOk t y then (match dlook kvs y with
      | some v => .ok v (st.set n (.md t (ddrop kvs y)))
      | none => .ok z st) else .stuck
  | _ => .stuck
def dpd3 (n : Nat) (y z : D) (st : St) : RE := dpd4 st[n]? n y z st
def dpd2 (h : EM) (env : Env) (n : Nat) (y : D) (st : St) : RE := (h env st).bind (dpd3 n y)
def dpd1 (g h : EM) (env : Env) (x : D) (st : St) : RE := if isDct x st then (match x with
  | .ref n => (g env st).bind (dpd2 h env n)
  | _ => .stuck) else .stuck
@[simp] theorem ap_dpd (f g h : EM) (env : Env) (st : St) : xDPop2 f g h env st = (f env st).bind (dpd1 g h env) := by
  show (f env st).bind _ = _
  congr 1; funext x st; unfold dpd1
  cases x with
  | ref n =>
    split
    · rfl
    · rfl
  | _ => rfl
theorem dpd1o {g h : EM} {env : Env} {n : Nat} {st : St} : (∃ t kvs, st[n]? = some (.md t kvs)) → dpd1 g h env (.ref n) st = (g env st).bind (dpd2 h env n) := fun ⟨t, kvs, e⟩ => by
  unfold dpd1 isDct; rw [asK_ref, e]; rfl
@[simp] theorem ap_dpd2 (h : EM) (env : Env) (n : Nat) (y : D) (st : St) : dpd2 h env n y st = (h env st).bind (dpd3 n y) := id rfl
@[simp] theorem ap_dpd3 (n : Nat) (y z : D) (st : St) : dpd3 n y z st = dpd4 st[n]? n y z st := id rfl
theorem dpd4_t {t : Bool} {kvs : List (D × D)} {n : Nat} {y z v : D} {st : St} (hk : keyOk t y = true) (hv : dlook kvs y = some v) : dpd4 (some (.md t kvs)) n y z st = .ok v (st.set n (.md t (ddrop kvs y))) := by
  unfold dpd4; simp only [hk, hv, if_true]
theorem dpd4_f {t : Bool} {kvs : List (D × D)} {n : Nat} {y z : D} {st : St} (hk : keyOk t y = true) (hv : dlook kvs y = none) : dpd4 (some (.md t kvs)) n y z st = .ok z st := by
  unfold dpd4; simp only [hk, hv, if_true]
def dput4 (o : Option Ob) (n : Nat) (y v : D) (env : Env) (st : St) : RS := match o with
  | some (.md t kvs) => if keyOk t y ∧ kvs.length < LN then .nx env (st.set n (.md t (dputL kvs y v))) else .stuck
  | _ => .stuck
def dput3 (v x : D) (env : Env) (y : D) (st : St) : RS := match x with
  | .ref n => dput4 st[n]? n y v env st
  | _ => .stuck
def dput2 (g : EM) (env : Env) (v x : D) (st : St) : RS := (g env st).bindS env (dput3 v x env)
def dput1 (f g : EM) (env : Env) (v : D) (st : St) : RS := (f env st).bindS env (dput2 g env v)
@[simp] theorem ap_dput (f g e : EM) (env : Env) (st : St) : sDPut f g e env st = (e env st).bindS env (dput1 f g env) := by
  show (e env st).bindS env _ = _
  congr 1
@[simp] theorem ap_dput1 (f g : EM) (env : Env) (v : D) (st : St) : dput1 f g env v st = (f env st).bindS env (dput2 g env v) := id rfl
@[simp] theorem ap_dput2 (g : EM) (env : Env) (v x : D) (st : St) : dput2 g env v x st = (g env st).bindS env (dput3 v x env) := id rfl
@[simp] theorem ap_dput3 (v : D) (n : Nat) (env : Env) (y : D) (st : St) : dput3 v (.ref n) env y st = dput4 st[n]? n y v env st := id rfl
theorem dput4o {t : Bool} {kvs : List (D × D)} {n : Nat} {y v : D} {env : Env} {st : St} (hk : keyOk t y = true) (hl : kvs.length < 16777216) : dput4 (some (.md t kvs)) n y v env st = .nx env (st.set n (.md t (dputL kvs y v))) := if_pos ⟨hk, hl⟩
@[simp] theorem keyOk_str (s : List Nat) : keyOk false (.str s) = true := id rfl
@[simp] theorem keyOk_int (i : Int) : keyOk false (.int i) = true := id rfl
/-- sorted, list(range) -/
def srt1 (o : Option (List D)) (st : St) : RA := match o with
  | some l => ofL (sortD l) st
  | none => .stuck
def srt0 (x : D) (st : St) : RA := srt1 (asL st x) st
@[simp] theorem ap_srt (f : EM) (env : Env) (st : St) : lSort f env st = (f env st).bind srt0 := by
  show (f env st).bind _ = _
  congr 1
@[simp] theorem ap_srt0 (x : D) (st : St) : srt0 x st = srt1 (asL st x) st := id rfl
@[simp] theorem ap_srt1 (l : List D) (st : St) : srt1 (some l) st = ofL (sortD l) st := id rfl
def srtk1 (o : Option (Bool × List (D × D))) (st : St) : RA := match o with
  | some (_, kvs) => ofL (sortD (kvs.map (·.1))) st
  | none => .stuck
def srtk0 (x : D) (st : St) : RA := srtk1 (asK st x) st
@[simp] theorem ap_srtk (f : EM) (env : Env) (st : St) : lSortK f env st = (f env st).bind srtk0 := by
  show (f env st).bind _ = _
  congr 1
@[simp] theorem ap_srtk0 (x : D) (st : St) : srtk0 x st = srtk1 (asK st x) st := id rfl
@[simp] theorem ap_srtk1 (t : Bool) (kvs : List (D × D)) (st : St) : srtk1 (some (t, kvs)) st = ofL (sortD (kvs.map (·.1))) st := id rfl
def lrng1 (w : Wk) (st : St) : RA := match w with
  | .data l => if l.length ≤ LN then .ok l st else .stuck
  | .obj _ => .stuck
@[simp] theorem ap_lrng (it : IM) (env : Env) (st : St) : lListR it env st = (it env st).bind lrng1 := by
  show (it env st).bind _ = _
  congr 1
theorem lrng1o {l : List D} {st : St} (h : l.length ≤ 16777216) : lrng1 (.data l) st = .ok l st := if_pos h
def rng2b (x y : D) (st : St) : RWk := match x, y with
  | .int i, .int j => if -(2 ^ 62) ≤ i ∧ i < 2 ^ 62 ∧ -(2 ^ 62) ≤ j ∧ j < 2 ^ 62 then .ok (.data (rng i (j - i).toNat)) st else .stuck
  | _, _ => .stuck
def rng2a (g : EM) (env : Env) (x : D) (st : St) : RWk := (g env st).bind (rng2b x)
@[simp] theorem ap_rng2 (f g : EM) (env : Env) (st : St) : iRng2 f g env st = (f env st).bind (rng2a g env) := by
  show (f env st).bind _ = _
  congr 1
@[simp] theorem ap_rng2a (g : EM) (env : Env) (x : D) (st : St) : rng2a g env x st = (g env st).bind (rng2b x) := id rfl
theorem rng2o {i j : Int} {st : St} (hi : -(2 ^ 62) ≤ i ∧ i < 2 ^ 62) (hj : -(2 ^ 62) ≤ j ∧ j < 2 ^ 62) : rng2b (.int i) (.int j) st = .ok (.data ((List.range (j - i).toNat).map fun (k : Nat) => D.int (i + k))) st := by
  unfold rng2b
  simp only
  rw [if_pos ⟨hi.1, hi.2, hj⟩, rng_map]
end TH.Q
end
section
set_option linter.all false
/-! TPL: the program's bodies in pieces (printed by gen2.py). -/
namespace TH.PG
open TH
def L_is_level_1 (G : G) (c : Calls) : SM := sIf (xBin oGt (xB bLen (aCons (xVar 0) (aNil))) (xC (.int 12))) (sRet (xC (.bl false))) (sSkip)
def L_is_level_2 (G : G) (c : Calls) : SM := sRet (xB bAll (aCons (xLst (lComp (iVal (xVar 0)) (.name 1) none (xAnd (xChain oLe oLt (xC (.int 32)) (xB bOrd (aCons (xVar 1) (aNil))) (xC (.int 127))) (xAnd (xBin oNe (xB bOrd (aCons (xVar 1) (aNil))) (xC (.int 37))) (xBin oNotIn (xVar 1) (xC (.str [43, 35, 47]))))) [1])) (aNil)))
def L_is_level (G : G) (c : Calls) : SM := sSeq (L_is_level_1 G c) (L_is_level_2 G c)
theorem L_is_level_eq (G : G) (c : Calls) : B_is_level G c = L_is_level G c := rfl
def L_look_name_1 (G : G) (c : Calls) : SM := sSet 1 (xLst (lSplit (xVar 0) (xC (.str [47]))))
def L_look_name_2 (G : G) (c : Calls) : SM := sIf (xOr (xBin oEq (xVar 0) (xC (.str []))) (xOr (xBin oGt (xB bLen (aCons (xVar 1) (aNil))) (xC (.int 8))) (xNot (xB bAll (aCons (xLst (lComp (iVal (xVar 1)) (.name 2) none (xCall c 0 (aCons (xVar 2) (aNil))) [2])) (aNil)))))) (sRaise 1) (sSkip)
def L_look_name (G : G) (c : Calls) : SM := sSeq (L_look_name_1 G c) (L_look_name_2 G c)
theorem L_look_name_eq (G : G) (c : Calls) : B_look_name G c = L_look_name G c := rfl
def L_look_wish_1 (G : G) (c : Calls) : SM := sSet 1 (xLst (lSplit (xVar 0) (xC (.str [47]))))
def L_look_wish_2 (G : G) (c : Calls) : SM := sSet 2 (xIf (xBin oEq (xBin oIx (xVar 1) (xNeg (xC (.int 1)))) (xC (.str [35]))) (xLst (lSl (xVar 1) none (some (xNeg (xC (.int 1)))))) (xVar 1))
def L_look_wish_3 (G : G) (c : Calls) : SM := sIf (xOr (xBin oEq (xVar 0) (xC (.str []))) (xOr (xBin oGt (xB bLen (aCons (xVar 1) (aNil))) (xC (.int 8))) (xNot (xB bAll (aCons (xLst (lComp (iVal (xVar 2)) (.name 3) none (xOr (xBin oEq (xVar 3) (xC (.str [43]))) (xCall c 0 (aCons (xVar 3) (aNil)))) [3])) (aNil)))))) (sRaise 1) (sSkip)
def L_look_wish (G : G) (c : Calls) : SM := sSeq (L_look_wish_1 G c) (sSeq (L_look_wish_2 G c) (L_look_wish_3 G c))
theorem L_look_wish_eq (G : G) (c : Calls) : B_look_wish G c = L_look_wish G c := rfl
def L_look_hearer_1 (G : G) (c : Calls) : SM := sIf (xOr (xNot (xChain oLe oLe (xC (.int 1)) (xB bLen (aCons (xVar 0) (aNil))) (xC (.int 12)))) (xNot (xB bAll (aCons (xLst (lComp (iVal (xVar 0)) (.name 1) none (xBin oIn (xVar 1) (xC (.str [97, 98, 99, 100, 101, 102, 103, 104, 105, 106, 107, 108, 109, 110, 111, 112, 113, 114, 115, 116, 117, 118, 119, 120, 121, 122, 48, 49, 50, 51, 52, 53, 54, 55, 56, 57]))) [1])) (aNil))))) (sRaise 1) (sSkip)
def L_look_hearer (G : G) (c : Calls) : SM := L_look_hearer_1 G c
theorem L_look_hearer_eq (G : G) (c : Calls) : B_look_hearer G c = L_look_hearer G c := rfl
def L_look_grade_1 (G : G) (c : Calls) : SM := sIf (xNot (xChain oLe oLe (xC (.int 0)) (xVar 0) (xC (.int 2)))) (sRaise 1) (sSkip)
def L_look_grade (G : G) (c : Calls) : SM := L_look_grade_1 G c
theorem L_look_grade_eq (G : G) (c : Calls) : B_look_grade G c = L_look_grade G c := rfl
def L_fits_levels_1 (G : G) (c : Calls) : SM := sIf (xBin oEq (xLst (lSl (xVar 0) none (some (xC (.int 1))))) (xLst (lLst (aCons (xC (.str [35])) (aNil))))) (sRet (xC (.bl true))) (sSkip)
def L_fits_levels_2 (G : G) (c : Calls) : SM := sIf (xOr (xNot (xVar 0)) (xNot (xVar 1))) (sRet (xAnd (xNot (xVar 0)) (xNot (xVar 1)))) (sSkip)
def L_fits_levels_3 (G : G) (c : Calls) : SM := sRet (xAnd (xBin oIn (xBin oIx (xVar 0) (xC (.int 0))) (xTup (aCons (xC (.str [43])) (aCons (xBin oIx (xVar 1) (xC (.int 0))) (aNil))))) (xCall c 6 (aCons (xLst (lSl (xVar 0) (some (xC (.int 1))) none)) (aCons (xLst (lSl (xVar 1) (some (xC (.int 1))) none)) (aNil)))))
def L_fits_levels (G : G) (c : Calls) : SM := sSeq (L_fits_levels_1 G c) (sSeq (L_fits_levels_2 G c) (L_fits_levels_3 G c))
theorem L_fits_levels_eq (G : G) (c : Calls) : B_fits_levels G c = L_fits_levels G c := rfl
def L_fits_1 (G : G) (c : Calls) : SM := sExpr (xCall c 2 (aCons (xVar 0) (aNil)))
def L_fits_2 (G : G) (c : Calls) : SM := sExpr (xCall c 1 (aCons (xVar 1) (aNil)))
def L_fits_3 (G : G) (c : Calls) : SM := sSet 2 (xLst (lSplit (xVar 0) (xC (.str [47]))))
def L_fits_4 (G : G) (c : Calls) : SM := sRet (xAnd (xNot (xAnd (xCall c 5 (aCons (xBin oIx (xVar 2) (xC (.int 0))) (aNil))) (xBm isStr oStarts (xVar 1) (xC (.str [36]))))) (xCall c 6 (aCons (xVar 2) (aCons (xLst (lSplit (xVar 1) (xC (.str [47])))) (aNil)))))
def L_fits (G : G) (c : Calls) : SM := sSeq (L_fits_1 G c) (sSeq (L_fits_2 G c) (sSeq (L_fits_3 G c) (L_fits_4 G c)))
theorem L_fits_eq (G : G) (c : Calls) : B_fits G c = L_fits G c := rfl
def L_covers_levels_1 (G : G) (c : Calls) : SM := sIf (xBin oEq (xLst (lSl (xVar 0) none (some (xC (.int 1))))) (xLst (lLst (aCons (xC (.str [35])) (aNil))))) (sRet (xC (.bl true))) (sSkip)
def L_covers_levels_2 (G : G) (c : Calls) : SM := sIf (xOr (xNot (xVar 0)) (xNot (xVar 1))) (sRet (xAnd (xNot (xVar 0)) (xNot (xVar 1)))) (sSkip)
def L_covers_levels_3 (G : G) (c : Calls) : SM := sIf (xBin oEq (xBin oIx (xVar 1) (xC (.int 0))) (xC (.str [35]))) (sRet (xC (.bl false))) (sSkip)
def L_covers_levels_4 (G : G) (c : Calls) : SM := sRet (xAnd (xBin oIn (xBin oIx (xVar 0) (xC (.int 0))) (xTup (aCons (xC (.str [43])) (aCons (xBin oIx (xVar 1) (xC (.int 0))) (aNil))))) (xCall c 8 (aCons (xLst (lSl (xVar 0) (some (xC (.int 1))) none)) (aCons (xLst (lSl (xVar 1) (some (xC (.int 1))) none)) (aNil)))))
def L_covers_levels (G : G) (c : Calls) : SM := sSeq (L_covers_levels_1 G c) (sSeq (L_covers_levels_2 G c) (sSeq (L_covers_levels_3 G c) (L_covers_levels_4 G c)))
theorem L_covers_levels_eq (G : G) (c : Calls) : B_covers_levels G c = L_covers_levels G c := rfl
def L_covers_1 (G : G) (c : Calls) : SM := sExpr (xCall c 2 (aCons (xVar 0) (aNil)))
def L_covers_2 (G : G) (c : Calls) : SM := sExpr (xCall c 2 (aCons (xVar 1) (aNil)))
def L_covers_3 (G : G) (c : Calls) : SM := sSet 2 (xLst (lSplit (xVar 0) (xC (.str [47]))))
def L_covers_4 (G : G) (c : Calls) : SM := sSet 3 (xLst (lSplit (xVar 1) (xC (.str [47]))))
def L_covers_5 (G : G) (c : Calls) : SM := sIf (xBin oIn (xVar 3) (xTup (aCons (xLst (lLst (aCons (xC (.str [35])) (aNil)))) (aCons (xLst (lLst (aCons (xC (.str [])) (aCons (xC (.str [35])) (aNil))))) (aNil))))) (sSet 3 (xLst (lCat (xLst (lSl (xVar 3) none (some (xNeg (xC (.int 1)))))) (xLst (lLst (aCons (xC (.str [43])) (aCons (xC (.str [35])) (aNil)))))))) (sSkip)
def L_covers_6 (G : G) (c : Calls) : SM := sRet (xAnd (xNot (xAnd (xCall c 5 (aCons (xBin oIx (xVar 2) (xC (.int 0))) (aNil))) (xBm isStr oStarts (xVar 1) (xC (.str [36]))))) (xCall c 8 (aCons (xVar 2) (aCons (xVar 3) (aNil)))))
def L_covers (G : G) (c : Calls) : SM := sSeq (L_covers_1 G c) (sSeq (L_covers_2 G c) (sSeq (L_covers_3 G c) (sSeq (L_covers_4 G c) (sSeq (L_covers_5 G c) (L_covers_6 G c)))))
theorem L_covers_eq (G : G) (c : Calls) : B_covers G c = L_covers G c := rfl
def L_both_levels_1 (G : G) (c : Calls) : SM := sIf (xBin oEq (xLst (lSl (xVar 0) none (some (xC (.int 1))))) (xLst (lLst (aCons (xC (.str [35])) (aNil))))) (sRet (xCall c 10 (aCons (xVar 1) (aNil)))) (sSkip)
def L_both_levels_2 (G : G) (c : Calls) : SM := sIf (xBin oEq (xLst (lSl (xVar 1) none (some (xC (.int 1))))) (xLst (lLst (aCons (xC (.str [35])) (aNil))))) (sRet (xCall c 10 (aCons (xVar 0) (aNil)))) (sSkip)
def L_both_levels_3 (G : G) (c : Calls) : SM := sIf (xOr (xNot (xVar 0)) (xNot (xVar 1))) (sRet (xIf (xOr (xVar 0) (xVar 1)) (xC .non) (xLst (lLst (aNil))))) (sSkip)
def L_both_levels_4 (G : G) (c : Calls) : SM := sIf (xAnd (xBin oNe (xBin oIx (xVar 0) (xC (.int 0))) (xBin oIx (xVar 1) (xC (.int 0)))) (xBin oNotIn (xC (.str [43])) (xTup (aCons (xBin oIx (xVar 0) (xC (.int 0))) (aCons (xBin oIx (xVar 1) (xC (.int 0))) (aNil)))))) (sRet (xC .non)) (sSkip)
def L_both_levels_5 (G : G) (c : Calls) : SM := sSet 2 (xIf (xBin oEq (xBin oIx (xVar 0) (xC (.int 0))) (xC (.str [43]))) (xBin oIx (xVar 1) (xC (.int 0))) (xBin oIx (xVar 0) (xC (.int 0))))
def L_both_levels_6 (G : G) (c : Calls) : SM := sSet 3 (xCall c 11 (aCons (xLst (lSl (xVar 0) (some (xC (.int 1))) none)) (aCons (xLst (lSl (xVar 1) (some (xC (.int 1))) none)) (aNil))))
def L_both_levels_7 (G : G) (c : Calls) : SM := sRet (xIf (xBin oIs (xVar 3) (xC .non)) (xC .non) (xLst (lCat (xCall c 10 (aCons (xLst (lLst (aCons (xVar 2) (aNil)))) (aNil))) (xVar 3))))
def L_both_levels (G : G) (c : Calls) : SM := sSeq (L_both_levels_1 G c) (sSeq (L_both_levels_2 G c) (sSeq (L_both_levels_3 G c) (sSeq (L_both_levels_4 G c) (sSeq (L_both_levels_5 G c) (sSeq (L_both_levels_6 G c) (L_both_levels_7 G c))))))
theorem L_both_levels_eq (G : G) (c : Calls) : B_both_levels G c = L_both_levels G c := rfl
def L_meeting_1 (G : G) (c : Calls) : SM := sExpr (xCall c 2 (aCons (xVar 0) (aNil)))
def L_meeting_2 (G : G) (c : Calls) : SM := sExpr (xCall c 2 (aCons (xVar 1) (aNil)))
def L_meeting_3 (G : G) (c : Calls) : SM := sSet 2 (xLst (lSplit (xVar 0) (xC (.str [47]))))
def L_meeting_4 (G : G) (c : Calls) : SM := sSet 3 (xLst (lSplit (xVar 1) (xC (.str [47]))))
def L_meeting_5 (G : G) (c : Calls) : SM := sIf (xOr (xAnd (xCall c 5 (aCons (xBin oIx (xVar 2) (xC (.int 0))) (aNil))) (xBm isStr oStarts (xVar 1) (xC (.str [36])))) (xAnd (xCall c 5 (aCons (xBin oIx (xVar 3) (xC (.int 0))) (aNil))) (xBm isStr oStarts (xVar 0) (xC (.str [36]))))) (sRet (xC .non)) (sSkip)
def L_meeting_6 (G : G) (c : Calls) : SM := sSet 4 (xCall c 11 (aCons (xVar 2) (aCons (xVar 3) (aNil))))
def L_meeting_7 (G : G) (c : Calls) : SM := sIf (xBin oEq (xVar 4) (xLst (lLst (aNil)))) (sRet (xC (.str [97]))) (sSkip)
def L_meeting_8 (G : G) (c : Calls) : SM := sIf (xBin oEq (xVar 4) (xLst (lLst (aCons (xC (.str [])) (aNil))))) (sRet (xIf (xAnd (xCall c 7 (aCons (xVar 0) (aCons (xC (.str [47, 97])) (aNil)))) (xCall c 7 (aCons (xVar 1) (aCons (xC (.str [47, 97])) (aNil))))) (xC (.str [47, 97])) (xC .non))) (sSkip)
def L_meeting_9 (G : G) (c : Calls) : SM := sRet (xIf (xBin oIs (xVar 4) (xC .non)) (xC .non) (xBm isStr oJoin (xC (.str [47])) (xVar 4)))
def L_meeting (G : G) (c : Calls) : SM := sSeq (L_meeting_1 G c) (sSeq (L_meeting_2 G c) (sSeq (L_meeting_3 G c) (sSeq (L_meeting_4 G c) (sSeq (L_meeting_5 G c) (sSeq (L_meeting_6 G c) (sSeq (L_meeting_7 G c) (sSeq (L_meeting_8 G c) (L_meeting_9 G c))))))))
theorem L_meeting_eq (G : G) (c : Calls) : B_meeting G c = L_meeting G c := rfl
def L_Node___init___1 (G : G) (c : Calls) : SM := sFld 32 (G.ok 0) 0 (xVar 0) (xDNew false)
def L_Node___init___2 (G : G) (c : Calls) : SM := sFld 32 (G.ok 1) 1 (xVar 0) (xDNew false)
def L_Node___init__ (G : G) (c : Calls) : SM := sSeq (L_Node___init___1 G c) (L_Node___init___2 G c)
theorem L_Node___init___eq (G : G) (c : Calls) : B_Node___init__ G c = L_Node___init__ G c := rfl
def L_Book___init___1 (G : G) (c : Calls) : SM := sFld 32 (G.ok 2) 2 (xVar 0) (xMake c 10 13 aNil)
def L_Book___init___2 (G : G) (c : Calls) : SM := sFld 32 (G.ok 3) 3 (xVar 0) (xDNew true)
def L_Book___init__ (G : G) (c : Calls) : SM := sSeq (L_Book___init___1 G c) (L_Book___init___2 G c)
theorem L_Book___init___eq (G : G) (c : Calls) : B_Book___init__ G c = L_Book___init__ G c := rfl
def L_Book_node_1 (G : G) (c : Calls) : SM := sSet 2 (xFld 32 (G.ok 2) 2 (xVar 0))
def L_Book_node_2b_1 (G : G) (c : Calls) : SM := sIf (xDNotIn (xVar 3) (xFld 32 (G.ok 0) 0 (xVar 2))) (sDPut (xFld 32 (G.ok 0) 0 (xVar 2)) (xVar 3) (xMake c 10 13 aNil)) (sSkip)
def L_Book_node_2b_2 (G : G) (c : Calls) : SM := sSet 2 (xDGet (xFld 32 (G.ok 0) 0 (xVar 2)) (xVar 3))
def L_Book_node_2b (G : G) (c : Calls) : SM := sSeq (L_Book_node_2b_1 G c) (L_Book_node_2b_2 G c)
def L_Book_node_2 (G : G) (c : Calls) : SM := sFor (iVal (xLst (lSplit (xVar 1) (xC (.str [47]))))) (.name 3) (L_Book_node_2b G c)
def L_Book_node_3 (G : G) (c : Calls) : SM := sRet (xVar 2)
def L_Book_node (G : G) (c : Calls) : SM := sSeq (L_Book_node_1 G c) (sSeq (L_Book_node_2 G c) (L_Book_node_3 G c))
theorem L_Book_node_eq (G : G) (c : Calls) : B_Book_node G c = L_Book_node G c := rfl
def L_Book_put_1 (G : G) (c : Calls) : SM := sExpr (xCall c 3 (aCons (xVar 1) (aNil)))
def L_Book_put_2 (G : G) (c : Calls) : SM := sExpr (xCall c 2 (aCons (xVar 2) (aNil)))
def L_Book_put_3 (G : G) (c : Calls) : SM := sExpr (xCall c 4 (aCons (xVar 3) (aNil)))
def L_Book_put_4 (G : G) (c : Calls) : SM := sSet 4 (xDNotIn (xTup (aCons (xVar 1) (aCons (xVar 2) (aNil)))) (xFld 32 (G.ok 3) 3 (xVar 0)))
def L_Book_put_5 (G : G) (c : Calls) : SM := sDPut (xFld 32 (G.ok 3) 3 (xVar 0)) (xTup (aCons (xVar 1) (aCons (xVar 2) (aNil)))) (xVar 3)
def L_Book_put_6 (G : G) (c : Calls) : SM := sDPut (xFld 32 (G.ok 1) 1 (xMeth c (G.mt 26) 32 (xVar 0) (aCons (xVar 2) (aNil)))) (xVar 1) (xVar 3)
def L_Book_put_7 (G : G) (c : Calls) : SM := sRet (xVar 4)
def L_Book_put (G : G) (c : Calls) : SM := sSeq (L_Book_put_1 G c) (sSeq (L_Book_put_2 G c) (sSeq (L_Book_put_3 G c) (sSeq (L_Book_put_4 G c) (sSeq (L_Book_put_5 G c) (sSeq (L_Book_put_6 G c) (L_Book_put_7 G c))))))
theorem L_Book_put_eq (G : G) (c : Calls) : B_Book_put G c = L_Book_put G c := rfl
def L_Book_drop_1 (G : G) (c : Calls) : SM := sIf (xDNotIn (xTup (aCons (xVar 1) (aCons (xVar 2) (aNil)))) (xFld 32 (G.ok 3) 3 (xVar 0))) (sRet (xC (.bl false))) (sSkip)
def L_Book_drop_2 (G : G) (c : Calls) : SM := sExpr (xDPop1 (xFld 32 (G.ok 3) 3 (xVar 0)) (xTup (aCons (xVar 1) (aCons (xVar 2) (aNil)))))
def L_Book_drop_3 (G : G) (c : Calls) : SM := sExpr (xDPop1 (xFld 32 (G.ok 1) 1 (xMeth c (G.mt 26) 32 (xVar 0) (aCons (xVar 2) (aNil)))) (xVar 1))
def L_Book_drop_4 (G : G) (c : Calls) : SM := sRet (xC (.bl true))
def L_Book_drop (G : G) (c : Calls) : SM := sSeq (L_Book_drop_1 G c) (sSeq (L_Book_drop_2 G c) (sSeq (L_Book_drop_3 G c) (L_Book_drop_4 G c)))
theorem L_Book_drop_eq (G : G) (c : Calls) : B_Book_drop G c = L_Book_drop G c := rfl
def L_Book_leave_1 (G : G) (c : Calls) : SM := sSet 2 (xMeth c (G.mt 43) 32 (xVar 0) (aCons (xVar 1) (aNil)))
def L_Book_leave_2b_1 (G : G) (c : Calls) : SM := sExpr (xMeth c (G.mt 7) 32 (xVar 0) (aCons (xVar 1) (aCons (xVar 3) (aNil))))
def L_Book_leave_2b (G : G) (c : Calls) : SM := L_Book_leave_2b_1 G c
def L_Book_leave_2 (G : G) (c : Calls) : SM := sFor (iVal (xVar 2)) (.tup [3, 4]) (L_Book_leave_2b G c)
def L_Book_leave_3 (G : G) (c : Calls) : SM := sRet (xB bLen (aCons (xVar 2) (aNil)))
def L_Book_leave (G : G) (c : Calls) : SM := sSeq (L_Book_leave_1 G c) (sSeq (L_Book_leave_2 G c) (L_Book_leave_3 G c))
theorem L_Book_leave_eq (G : G) (c : Calls) : B_Book_leave G c = L_Book_leave G c := rfl
def L_Book_collect_1t_1 (G : G) (c : Calls) : SM := sExpr (xMeth c (G.mt 35) 32 (xVar 0) (aCons (xDGet2 (xFld 32 (G.ok 0) 0 (xVar 1)) (xC (.str [35])) (xC .non)) (aCons (xVar 4) (aNil))))
def L_Book_collect_1t_2 (G : G) (c : Calls) : SM := sIf (xAnd (xVar 2) (xDIn (xC (.str [43])) (xFld 32 (G.ok 0) 0 (xVar 1)))) (sExpr (xMeth c (G.mt 4) 32 (xVar 0) (aCons (xDGet (xFld 32 (G.ok 0) 0 (xVar 1)) (xC (.str [43]))) (aCons (xLst (lSl (xVar 2) (some (xC (.int 1))) none)) (aCons (xC (.bl false)) (aCons (xVar 4) (aNil))))))) (sSkip)
def L_Book_collect_1t (G : G) (c : Calls) : SM := sSeq (L_Book_collect_1t_1 G c) (L_Book_collect_1t_2 G c)
def L_Book_collect_1 (G : G) (c : Calls) : SM := sIf (xNot (xAnd (xVar 3) (xBm isStr oStarts (xBin oIx (xVar 2) (xC (.int 0))) (xC (.str [36]))))) (L_Book_collect_1t G c) (sSkip)
def L_Book_collect_2e_1 (G : G) (c : Calls) : SM := sIf (xDIn (xBin oIx (xVar 2) (xC (.int 0))) (xFld 32 (G.ok 0) 0 (xVar 1))) (sExpr (xMeth c (G.mt 4) 32 (xVar 0) (aCons (xDGet (xFld 32 (G.ok 0) 0 (xVar 1)) (xBin oIx (xVar 2) (xC (.int 0)))) (aCons (xLst (lSl (xVar 2) (some (xC (.int 1))) none)) (aCons (xC (.bl false)) (aCons (xVar 4) (aNil))))))) (sSkip)
def L_Book_collect_2e (G : G) (c : Calls) : SM := L_Book_collect_2e_1 G c
def L_Book_collect_2 (G : G) (c : Calls) : SM := sIf (xNot (xVar 2)) (sExpr (xMeth c (G.mt 35) 32 (xVar 0) (aCons (xVar 1) (aCons (xVar 4) (aNil))))) (L_Book_collect_2e G c)
def L_Book_collect (G : G) (c : Calls) : SM := sSeq (L_Book_collect_1 G c) (L_Book_collect_2 G c)
theorem L_Book_collect_eq (G : G) (c : Calls) : B_Book_collect G c = L_Book_collect G c := rfl
def L_Book_take_1t_1b_1 (G : G) (c : Calls) : SM := sDPut (xVar 2) (xVar 3) (xB bMax2 (aCons (xDGet2 (xVar 2) (xVar 3) (xC (.int 0))) (aCons (xDGet (xFld 32 (G.ok 1) 1 (xVar 1)) (xVar 3)) (aNil))))
def L_Book_take_1t_1b (G : G) (c : Calls) : SM := L_Book_take_1t_1b_1 G c
def L_Book_take_1t_1 (G : G) (c : Calls) : SM := sForK (xFld 32 (G.ok 1) 1 (xVar 1)) (.name 3) (L_Book_take_1t_1b G c)
def L_Book_take_1t (G : G) (c : Calls) : SM := L_Book_take_1t_1 G c
def L_Book_take_1 (G : G) (c : Calls) : SM := sIf (xBin oIsNot (xVar 1) (xC .non)) (L_Book_take_1t G c) (sSkip)
def L_Book_take (G : G) (c : Calls) : SM := L_Book_take_1 G c
theorem L_Book_take_eq (G : G) (c : Calls) : B_Book_take G c = L_Book_take G c := rfl
def L_Book_hears_1 (G : G) (c : Calls) : SM := sExpr (xCall c 1 (aCons (xVar 1) (aNil)))
def L_Book_hears_2 (G : G) (c : Calls) : SM := sSet 2 (xDNew false)
def L_Book_hears_3 (G : G) (c : Calls) : SM := sExpr (xMeth c (G.mt 4) 32 (xVar 0) (aCons (xFld 32 (G.ok 2) 2 (xVar 0)) (aCons (xLst (lSplit (xVar 1) (xC (.str [47])))) (aCons (xC (.bl true)) (aCons (xVar 2) (aNil))))))
def L_Book_hears_4 (G : G) (c : Calls) : SM := sRet (xLst (lComp (iVal (xLst (lSortK (xVar 2)))) (.name 3) none (xTup (aCons (xVar 3) (aCons (xDGet (xVar 2) (xVar 3)) (aNil)))) [3]))
def L_Book_hears (G : G) (c : Calls) : SM := sSeq (L_Book_hears_1 G c) (sSeq (L_Book_hears_2 G c) (sSeq (L_Book_hears_3 G c) (L_Book_hears_4 G c)))
theorem L_Book_hears_eq (G : G) (c : Calls) : B_Book_hears G c = L_Book_hears G c := rfl
def L_kind_number_1 (G : G) (c : Calls) : SM := sSet 1 (xLst (lCat (xC (.lst [(.str []), (.str [99, 111, 110, 110, 101, 99, 116]), (.str [103, 114, 101, 101, 116, 101, 100]), (.str [115, 97, 121]), (.str [103, 111, 116]), (.str [104, 101, 108, 100]), (.str [102, 114, 101, 101]), (.str [100, 111, 110, 101]), (.str [104, 101, 97, 114]), (.str [104, 101, 97, 114, 100]), (.str [100, 114, 111, 112]), (.str [100, 114, 111, 112, 112, 101, 100])])) (xC (.lst [(.str [112, 105, 110, 103]), (.str [112, 111, 110, 103]), (.str [108, 101, 97, 118, 101])]))))
def L_kind_number_2 (G : G) (c : Calls) : SM := sRet (xBm isLst oIndex (xVar 1) (xVar 0))
def L_kind_number (G : G) (c : Calls) : SM := sSeq (L_kind_number_1 G c) (L_kind_number_2 G c)
theorem L_kind_number_eq (G : G) (c : Calls) : B_kind_number G c = L_kind_number G c := rfl
def L_must_1 (G : G) (c : Calls) : SM := sIf (xNot (xVar 0)) (sRaise 2) (sSkip)
def L_must (G : G) (c : Calls) : SM := L_must_1 G c
theorem L_must_eq (G : G) (c : Calls) : B_must G c = L_must G c := rfl
def L_look_tiding_1 (G : G) (c : Calls) : SM := sExpr (xCall c 1 (aCons (xVar 0) (aNil)))
def L_look_tiding_2 (G : G) (c : Calls) : SM := sExpr (xCall c 4 (aCons (xVar 2) (aNil)))
def L_look_tiding_3 (G : G) (c : Calls) : SM := sExpr (xCall c 25 (aCons (xAnd (xCall c 26 (aCons (xVar 1) (aNil))) (xBin oIn (xVar 3) (xTup (aCons (xC (.bl true)) (aCons (xC (.bl false)) (aNil)))))) (aNil)))
def L_look_tiding (G : G) (c : Calls) : SM := sSeq (L_look_tiding_1 G c) (sSeq (L_look_tiding_2 G c) (L_look_tiding_3 G c))
theorem L_look_tiding_eq (G : G) (c : Calls) : B_look_tiding G c = L_look_tiding G c := rfl
def L_look_say_1 (G : G) (c : Calls) : SM := sExpr (xCall c 28 (aCons (xBin oIx (xVar 0) (xC (.int 1))) (aCons (xBin oIx (xVar 0) (xC (.int 2))) (aCons (xBin oIx (xVar 0) (xC (.int 3))) (aCons (xBin oIx (xVar 0) (xC (.int 4))) (aNil))))))
def L_look_say_2 (G : G) (c : Calls) : SM := sExpr (xCall c 25 (aCons (xBin oIn (xBin oIx (xVar 0) (xC (.int 5))) (xTup (aCons (xC (.bl true)) (aCons (xC (.bl false)) (aNil))))) (aNil)))
def L_look_say_3 (G : G) (c : Calls) : SM := sExpr (xCall c 25 (aCons (xIf (xBin oGt (xBin oIx (xVar 0) (xC (.int 3))) (xC (.int 0))) (xCall c 27 (aCons (xBin oIx (xVar 0) (xC (.int 6))) (aNil))) (xAnd (xBin oEq (xBin oIx (xVar 0) (xC (.int 6))) (xC (.int 0))) (xNot (xBin oIx (xVar 0) (xC (.int 5)))))) (aNil)))
def L_look_say (G : G) (c : Calls) : SM := sSeq (L_look_say_1 G c) (sSeq (L_look_say_2 G c) (L_look_say_3 G c))
theorem L_look_say_eq (G : G) (c : Calls) : B_look_say G c = L_look_say G c := rfl
def L_look_some_1 (G : G) (c : Calls) : SM := sExpr (xCall c 25 (aCons (xAnd (xCall c 27 (aCons (xBin oIx (xVar 0) (xC (.int 1))) (aNil))) (xChain oLe oLe (xC (.int 1)) (xB bLen (aCons (xBin oIx (xVar 0) (xC (.int 2))) (aNil))) (xC (.int 10)))) (aNil)))
def L_look_some_2b_1e_1e_1 (G : G) (c : Calls) : SM := sExpr (xCall c 25 (aCons (xBin oEq (xB bLen (aCons (xVar 1) (aNil))) (xC (.int 2))) (aNil)))
def L_look_some_2b_1e_1e_2 (G : G) (c : Calls) : SM := sExpr (xCall c 2 (aCons (xBin oIx (xVar 1) (xC (.int 0))) (aNil)))
def L_look_some_2b_1e_1e_3 (G : G) (c : Calls) : SM := sExpr (xCall c 4 (aCons (xBin oIx (xVar 1) (xC (.int 1))) (aNil)))
def L_look_some_2b_1e_1e (G : G) (c : Calls) : SM := sSeq (L_look_some_2b_1e_1e_1 G c) (sSeq (L_look_some_2b_1e_1e_2 G c) (L_look_some_2b_1e_1e_3 G c))
def L_look_some_2b_1e_1 (G : G) (c : Calls) : SM := sIf (xBin oEq (xBin oIx (xVar 0) (xC (.int 0))) (xC (.str [100, 114, 111, 112]))) (sExpr (xCall c 2 (aCons (xVar 1) (aNil)))) (L_look_some_2b_1e_1e G c)
def L_look_some_2b_1e (G : G) (c : Calls) : SM := L_look_some_2b_1e_1 G c
def L_look_some_2b_1 (G : G) (c : Calls) : SM := sIf (xBin oEq (xBin oIx (xVar 0) (xC (.int 0))) (xC (.str [104, 101, 97, 114, 100]))) (sExpr (xCall c 25 (aCons (xBin oIn (xVar 1) (xTup (aCons (xC (.int 0)) (aCons (xC (.int 1)) (aCons (xC (.int 2)) (aCons (xC (.int 128)) (aNil))))))) (aNil)))) (L_look_some_2b_1e G c)
def L_look_some_2b (G : G) (c : Calls) : SM := L_look_some_2b_1 G c
def L_look_some_2 (G : G) (c : Calls) : SM := sFor (iVal (xBin oIx (xVar 0) (xC (.int 2)))) (.name 1) (L_look_some_2b G c)
def L_look_some (G : G) (c : Calls) : SM := sSeq (L_look_some_1 G c) (L_look_some_2 G c)
theorem L_look_some_eq (G : G) (c : Calls) : B_look_some G c = L_look_some G c := rfl
def L_look_whole_1 (G : G) (c : Calls) : SM := sExpr (xCall c 25 (aCons (xAnd (xBin oGt (xB bLen (aCons (xVar 0) (aNil))) (xC (.int 0))) (xBin oEq (xB bLen (aCons (xVar 0) (aNil))) (xKGet [([99, 111, 110, 110, 101, 99, 116], (.int 4)), ([103, 114, 101, 101, 116, 101, 100], (.int 2)), ([115, 97, 121], (.int 7)), ([103, 111, 116], (.int 2)), ([104, 101, 108, 100], (.int 2)), ([102, 114, 101, 101], (.int 2)), ([100, 111, 110, 101], (.int 2)), ([104, 101, 97, 114], (.int 3)), ([104, 101, 97, 114, 100], (.int 3))] (xBin oIx (xVar 0) (xC (.int 0))) (xKGet [([100, 114, 111, 112], (.int 3)), ([100, 114, 111, 112, 112, 101, 100], (.int 2)), ([112, 105, 110, 103], (.int 1)), ([112, 111, 110, 103], (.int 1)), ([108, 101, 97, 118, 101], (.int 1))] (xBin oIx (xVar 0) (xC (.int 0))) (xC (.int 0)))))) (aNil)))
def L_look_whole_2 (G : G) (c : Calls) : SM := sSet 1 (xBin oIx (xVar 0) (xC (.int 0)))
def L_look_whole_3t_1 (G : G) (c : Calls) : SM := sExpr (xCall c 3 (aCons (xBin oIx (xVar 0) (xC (.int 1))) (aNil)))
def L_look_whole_3t_2 (G : G) (c : Calls) : SM := sExpr (xCall c 25 (aCons (xBin oIn (xBin oIx (xVar 0) (xC (.int 2))) (xTup (aCons (xC (.bl true)) (aCons (xC (.bl false)) (aNil))))) (aNil)))
def L_look_whole_3t_3t_1 (G : G) (c : Calls) : SM := sExpr (xCall c 25 (aCons (xBin oEq (xB bLen (aCons (xBin oIx (xVar 0) (xC (.int 3))) (aNil))) (xC (.int 4))) (aNil)))
def L_look_whole_3t_3t_2 (G : G) (c : Calls) : SM := sExpr (xCall c 28 (aCons (xBin oIx (xBin oIx (xVar 0) (xC (.int 3))) (xC (.int 0))) (aCons (xBin oIx (xBin oIx (xVar 0) (xC (.int 3))) (xC (.int 1))) (aCons (xBin oIx (xBin oIx (xVar 0) (xC (.int 3))) (xC (.int 2))) (aCons (xBin oIx (xBin oIx (xVar 0) (xC (.int 3))) (xC (.int 3))) (aNil))))))
def L_look_whole_3t_3t (G : G) (c : Calls) : SM := sSeq (L_look_whole_3t_3t_1 G c) (L_look_whole_3t_3t_2 G c)
def L_look_whole_3t_3 (G : G) (c : Calls) : SM := sIf (xBin oIsNot (xBin oIx (xVar 0) (xC (.int 3))) (xC .non)) (L_look_whole_3t_3t G c) (sSkip)
def L_look_whole_3t (G : G) (c : Calls) : SM := sSeq (L_look_whole_3t_1 G c) (sSeq (L_look_whole_3t_2 G c) (L_look_whole_3t_3 G c))
def L_look_whole_3e_1e_1e_1e_1 (G : G) (c : Calls) : SM := sIf (xBin oEq (xB bLen (aCons (xVar 0) (aNil))) (xC (.int 2))) (sExpr (xCall c 25 (aCons (xCall c 27 (aCons (xBin oIx (xVar 0) (xC (.int 1))) (aNil))) (aNil)))) (sSkip)
def L_look_whole_3e_1e_1e_1e (G : G) (c : Calls) : SM := L_look_whole_3e_1e_1e_1e_1 G c
def L_look_whole_3e_1e_1e_1 (G : G) (c : Calls) : SM := sIf (xBin oIn (xVar 1) (xTup (aCons (xC (.str [104, 101, 97, 114])) (aCons (xC (.str [104, 101, 97, 114, 100])) (aCons (xC (.str [100, 114, 111, 112])) (aNil)))))) (sExpr (xCall c 30 (aCons (xVar 0) (aNil)))) (L_look_whole_3e_1e_1e_1e G c)
def L_look_whole_3e_1e_1e (G : G) (c : Calls) : SM := L_look_whole_3e_1e_1e_1 G c
def L_look_whole_3e_1e_1 (G : G) (c : Calls) : SM := sIf (xBin oEq (xVar 1) (xC (.str [115, 97, 121]))) (sExpr (xCall c 29 (aCons (xVar 0) (aNil)))) (L_look_whole_3e_1e_1e G c)
def L_look_whole_3e_1e (G : G) (c : Calls) : SM := L_look_whole_3e_1e_1 G c
def L_look_whole_3e_1 (G : G) (c : Calls) : SM := sIf (xBin oEq (xVar 1) (xC (.str [103, 114, 101, 101, 116, 101, 100]))) (sExpr (xCall c 25 (aCons (xBin oIn (xBin oIx (xVar 0) (xC (.int 1))) (xTup (aCons (xC (.bl true)) (aCons (xC (.bl false)) (aNil))))) (aNil)))) (L_look_whole_3e_1e G c)
def L_look_whole_3e (G : G) (c : Calls) : SM := L_look_whole_3e_1 G c
def L_look_whole_3 (G : G) (c : Calls) : SM := sIf (xBin oEq (xVar 1) (xC (.str [99, 111, 110, 110, 101, 99, 116]))) (L_look_whole_3t G c) (L_look_whole_3e G c)
def L_look_whole (G : G) (c : Calls) : SM := sSeq (L_look_whole_1 G c) (sSeq (L_look_whole_2 G c) (L_look_whole_3 G c))
theorem L_look_whole_eq (G : G) (c : Calls) : B_look_whole G c = L_look_whole G c := rfl
def L_look_packet_1b_1 (G : G) (c : Calls) : SM := sExpr (xCall c 31 (aCons (xVar 0) (aNil)))
def L_look_packet_1b (G : G) (c : Calls) : SM := L_look_packet_1b_1 G c
def L_look_packet_1 (G : G) (c : Calls) : SM := sTryR (L_look_packet_1b G c) (G.tk 1) 2
def L_look_packet (G : G) (c : Calls) : SM := L_look_packet_1 G c
theorem L_look_packet_eq (G : G) (c : Calls) : B_look_packet G c = L_look_packet G c := rfl
def L_will_bytes_1 (G : G) (c : Calls) : SM := sSet 1 (xBin oIx (xVar 0) (xC (.int 3)))
def L_will_bytes_2 (G : G) (c : Calls) : SM := sIf (xBin oIs (xVar 1) (xC .non)) (sRet (xLst (lLst (aCons (xBin oMul (xC (.int 2)) (xB bInt (aCons (xBin oIx (xVar 0) (xC (.int 2))) (aNil)))) (aNil))))) (sSkip)
def L_will_bytes_3 (G : G) (c : Calls) : SM := sSet 2 (xBin oAdd (xBin oAdd (xBin oAdd (xBin oMul (xC (.int 2)) (xB bInt (aCons (xBin oIx (xVar 0) (xC (.int 2))) (aNil)))) (xC (.int 4))) (xBin oMul (xC (.int 8)) (xBin oIx (xVar 1) (xC (.int 2))))) (xBin oMul (xC (.int 32)) (xB bInt (aCons (xBin oIx (xVar 1) (xC (.int 3))) (aNil)))))
def L_will_bytes_4 (G : G) (c : Calls) : SM := sRet (xLst (lCat (xLst (lCat (xLst (lLst (aCons (xVar 2) (aNil)))) (xCall c 34 (aCons (xBin oIx (xVar 1) (xC (.int 0))) (aNil))))) (xCall c 34 (aCons (xBin oIx (xVar 1) (xC (.int 1))) (aNil)))))
def L_will_bytes (G : G) (c : Calls) : SM := sSeq (L_will_bytes_1 G c) (sSeq (L_will_bytes_2 G c) (sSeq (L_will_bytes_3 G c) (L_will_bytes_4 G c)))
theorem L_will_bytes_eq (G : G) (c : Calls) : B_will_bytes G c = L_will_bytes G c := rfl
def L_rest_bytes_1 (G : G) (c : Calls) : SM := sSet 1 (xBin oIx (xVar 0) (xC (.int 0)))
def L_rest_bytes_2 (G : G) (c : Calls) : SM := sIf (xBin oEq (xVar 1) (xC (.str [99, 111, 110, 110, 101, 99, 116]))) (sRet (xLst (lCat (xCall c 34 (aCons (xBin oIx (xVar 0) (xC (.int 1))) (aNil))) (xCall c 35 (aCons (xVar 0) (aNil)))))) (sSkip)
def L_rest_bytes_3 (G : G) (c : Calls) : SM := sIf (xBin oEq (xVar 1) (xC (.str [103, 114, 101, 101, 116, 101, 100]))) (sRet (xLst (lLst (aCons (xB bInt (aCons (xBin oIx (xVar 0) (xC (.int 1))) (aNil))) (aNil))))) (sSkip)
def L_rest_bytes_4t_1 (G : G) (c : Calls) : SM := sSet 4 (xIf (xBin oGt (xBin oIx (xVar 0) (xC (.int 3))) (xC (.int 0))) (xCall c 33 (aCons (xBin oIx (xVar 0) (xC (.int 6))) (aNil))) (xLst (lLst (aNil))))
def L_rest_bytes_4t_2 (G : G) (c : Calls) : SM := sRet (xLst (lCat (xLst (lCat (xCall c 34 (aCons (xBin oIx (xVar 0) (xC (.int 1))) (aNil))) (xVar 4))) (xLst (lComp (iVal (xBin oIx (xVar 0) (xC (.int 2)))) (.name 5) none (xB bOrd (aCons (xVar 5) (aNil))) [5]))))
def L_rest_bytes_4t (G : G) (c : Calls) : SM := sSeq (L_rest_bytes_4t_1 G c) (L_rest_bytes_4t_2 G c)
def L_rest_bytes_4 (G : G) (c : Calls) : SM := sIf (xBin oEq (xVar 1) (xC (.str [115, 97, 121]))) (L_rest_bytes_4t G c) (sSkip)
def L_rest_bytes_5 (G : G) (c : Calls) : SM := sIf (xBin oEq (xB bLen (aCons (xVar 0) (aNil))) (xC (.int 1))) (sRet (xLst (lLst (aNil)))) (sSkip)
def L_rest_bytes_6 (G : G) (c : Calls) : SM := sSet 2 (xCall c 33 (aCons (xBin oIx (xVar 0) (xC (.int 1))) (aNil)))
def L_rest_bytes_7b_1e_1 (G : G) (c : Calls) : SM := sIf (xBin oEq (xVar 1) (xC (.str [100, 114, 111, 112]))) (sExpr (xExt (xVar 2) (xCall c 34 (aCons (xVar 3) (aNil))))) (sExpr (xExt (xVar 2) (xLst (lCat (xCall c 34 (aCons (xBin oIx (xVar 3) (xC (.int 0))) (aNil))) (xLst (lLst (aCons (xBin oIx (xVar 3) (xC (.int 1))) (aNil))))))))
def L_rest_bytes_7b_1e (G : G) (c : Calls) : SM := L_rest_bytes_7b_1e_1 G c
def L_rest_bytes_7b_1 (G : G) (c : Calls) : SM := sIf (xBin oEq (xVar 1) (xC (.str [104, 101, 97, 114, 100]))) (sExpr (xApp (xVar 2) (xVar 3))) (L_rest_bytes_7b_1e G c)
def L_rest_bytes_7b (G : G) (c : Calls) : SM := L_rest_bytes_7b_1 G c
def L_rest_bytes_7 (G : G) (c : Calls) : SM := sFor (iVal (xIf (xBin oEq (xB bLen (aCons (xVar 0) (aNil))) (xC (.int 3))) (xBin oIx (xVar 0) (xC (.int 2))) (xTup (aNil)))) (.name 3) (L_rest_bytes_7b G c)
def L_rest_bytes_8 (G : G) (c : Calls) : SM := sRet (xFrz (xVar 2))
def L_rest_bytes (G : G) (c : Calls) : SM := sSeq (L_rest_bytes_1 G c) (sSeq (L_rest_bytes_2 G c) (sSeq (L_rest_bytes_3 G c) (sSeq (L_rest_bytes_4 G c) (sSeq (L_rest_bytes_5 G c) (sSeq (L_rest_bytes_6 G c) (sSeq (L_rest_bytes_7 G c) (L_rest_bytes_8 G c)))))))
theorem L_rest_bytes_eq (G : G) (c : Calls) : B_rest_bytes G c = L_rest_bytes G c := rfl
def L_length_bytes_1 (G : G) (c : Calls) : SM := sIf (xBin oLt (xVar 0) (xC (.int 128))) (sRet (xLst (lLst (aCons (xVar 0) (aNil))))) (sSkip)
def L_length_bytes_2 (G : G) (c : Calls) : SM := sRet (xLst (lLst (aCons (xBin oSub (xBin oAdd (xC (.int 128)) (xVar 0)) (xBin oMul (xBin oDiv (xVar 0) (xC (.int 128))) (xC (.int 128)))) (aCons (xBin oDiv (xVar 0) (xC (.int 128))) (aNil)))))
def L_length_bytes (G : G) (c : Calls) : SM := sSeq (L_length_bytes_1 G c) (L_length_bytes_2 G c)
theorem L_length_bytes_eq (G : G) (c : Calls) : B_length_bytes G c = L_length_bytes G c := rfl
def L_written_packet_1 (G : G) (c : Calls) : SM := sExpr (xCall c 32 (aCons (xVar 0) (aNil)))
def L_written_packet_2 (G : G) (c : Calls) : SM := sSet 1 (xC (.int 0))
def L_written_packet_3 (G : G) (c : Calls) : SM := sIf (xBin oEq (xBin oIx (xVar 0) (xC (.int 0))) (xC (.str [115, 97, 121]))) (sSet 1 (xBin oAdd (xBin oAdd (xBin oMul (xC (.int 8)) (xB bInt (aCons (xBin oIx (xVar 0) (xC (.int 5))) (aNil)))) (xBin oMul (xC (.int 2)) (xBin oIx (xVar 0) (xC (.int 3))))) (xB bInt (aCons (xBin oIx (xVar 0) (xC (.int 4))) (aNil))))) (sSkip)
def L_written_packet_4 (G : G) (c : Calls) : SM := sSet 2 (xCall c 36 (aCons (xVar 0) (aNil)))
def L_written_packet_5 (G : G) (c : Calls) : SM := sRet (xLst (lCat (xLst (lCat (xLst (lLst (aCons (xBin oAdd (xBin oMul (xC (.int 16)) (xCall c 24 (aCons (xBin oIx (xVar 0) (xC (.int 0))) (aNil)))) (xVar 1)) (aNil)))) (xCall c 37 (aCons (xB bLen (aCons (xVar 2) (aNil))) (aNil))))) (xVar 2)))
def L_written_packet (G : G) (c : Calls) : SM := sSeq (L_written_packet_1 G c) (sSeq (L_written_packet_2 G c) (sSeq (L_written_packet_3 G c) (sSeq (L_written_packet_4 G c) (L_written_packet_5 G c))))
theorem L_written_packet_eq (G : G) (c : Calls) : B_written_packet G c = L_written_packet G c := rfl
def L_Bytes___init___1 (G : G) (c : Calls) : SM := sFld 32 (G.ok 4) 4 (xVar 0) (xVar 1)
def L_Bytes___init___2 (G : G) (c : Calls) : SM := sFld 32 (G.ok 5) 5 (xVar 0) (xC (.int 0))
def L_Bytes___init__ (G : G) (c : Calls) : SM := sSeq (L_Bytes___init___1 G c) (L_Bytes___init___2 G c)
theorem L_Bytes___init___eq (G : G) (c : Calls) : B_Bytes___init__ G c = L_Bytes___init__ G c := rfl
def L_Bytes_byte_1 (G : G) (c : Calls) : SM := sIf (xMeth c (G.mt 18) 32 (xVar 0) aNil) (sRaise 3) (sSkip)
def L_Bytes_byte_2 (G : G) (c : Calls) : SM := sFld 32 (G.ok 5) 5 (xVar 0) (xBin oAdd (xFld 32 (G.ok 5) 5 (xVar 0)) (xC (.int 1)))
def L_Bytes_byte_3 (G : G) (c : Calls) : SM := sRet (xBin oIx (xFld 32 (G.ok 4) 4 (xVar 0)) (xBin oSub (xFld 32 (G.ok 5) 5 (xVar 0)) (xC (.int 1))))
def L_Bytes_byte (G : G) (c : Calls) : SM := sSeq (L_Bytes_byte_1 G c) (sSeq (L_Bytes_byte_2 G c) (L_Bytes_byte_3 G c))
theorem L_Bytes_byte_eq (G : G) (c : Calls) : B_Bytes_byte G c = L_Bytes_byte G c := rfl
def L_Bytes_number_1 (G : G) (c : Calls) : SM := sSet 1 (xMeth c (G.mt 2) 32 (xVar 0) aNil)
def L_Bytes_number_2 (G : G) (c : Calls) : SM := sRet (xBin oAdd (xBin oMul (xC (.int 256)) (xVar 1)) (xMeth c (G.mt 2) 32 (xVar 0) aNil))
def L_Bytes_number (G : G) (c : Calls) : SM := sSeq (L_Bytes_number_1 G c) (L_Bytes_number_2 G c)
theorem L_Bytes_number_eq (G : G) (c : Calls) : B_Bytes_number G c = L_Bytes_number G c := rfl
def L_Bytes_text_1 (G : G) (c : Calls) : SM := sSet 2 (xC (.str []))
def L_Bytes_text_2b_1 (G : G) (c : Calls) : SM := sSet 4 (xMeth c (G.mt 2) 32 (xVar 0) aNil)
def L_Bytes_text_2b_2 (G : G) (c : Calls) : SM := sIf (xNot (xChain oLe oLt (xC (.int 32)) (xVar 4) (xC (.int 127)))) (sRaise 3) (sSkip)
def L_Bytes_text_2b_3 (G : G) (c : Calls) : SM := sSet 2 (xBin oAdd (xVar 2) (xBin oIx (xC (.str [32, 33, 34, 35, 36, 32, 38, 39, 40, 41, 42, 43, 44, 45, 46, 47, 48, 49, 50, 51, 52, 53, 54, 55, 56, 57, 58, 59, 60, 61, 62, 63, 64, 65, 66, 67, 68, 69, 70, 71, 72, 73, 74, 75, 76, 77, 78, 79, 80, 81, 82, 83, 84, 85, 86, 87, 88, 89, 90, 91, 92, 93, 94, 95, 96, 97, 98, 99, 100, 101, 102, 103, 104, 105, 106, 107, 108, 109, 110, 111, 112, 113, 114, 115, 116, 117, 118, 119, 120, 121, 122, 123, 124, 125, 126])) (xBin oSub (xVar 4) (xC (.int 32)))))
def L_Bytes_text_2b (G : G) (c : Calls) : SM := sSeq (L_Bytes_text_2b_1 G c) (sSeq (L_Bytes_text_2b_2 G c) (L_Bytes_text_2b_3 G c))
def L_Bytes_text_2 (G : G) (c : Calls) : SM := sFor (iRng1 (xVar 1)) (.name 3) (L_Bytes_text_2b G c)
def L_Bytes_text_3 (G : G) (c : Calls) : SM := sRet (xVar 2)
def L_Bytes_text (G : G) (c : Calls) : SM := sSeq (L_Bytes_text_1 G c) (sSeq (L_Bytes_text_2 G c) (L_Bytes_text_3 G c))
theorem L_Bytes_text_eq (G : G) (c : Calls) : B_Bytes_text G c = L_Bytes_text G c := rfl
def L_read_connect_1 (G : G) (c : Calls) : SM := sSet 1 (xMeth c (G.mt 6) 32 (xVar 0) aNil)
def L_read_connect_2 (G : G) (c : Calls) : SM := sSet 2 (xMeth c (G.mt 2) 32 (xVar 0) aNil)
def L_read_connect_3 (G : G) (c : Calls) : SM := sSet 3 (xBin oEq (xBin oMod (xBin oDiv (xVar 2) (xC (.int 2))) (xC (.int 2))) (xC (.int 1)))
def L_read_connect_4 (G : G) (c : Calls) : SM := sIf (xBin oEq (xBin oMod (xBin oDiv (xVar 2) (xC (.int 4))) (xC (.int 2))) (xC (.int 0))) (sRet (xTup (aCons (xC (.str [99, 111, 110, 110, 101, 99, 116])) (aCons (xVar 1) (aCons (xVar 3) (aCons (xC .non) (aNil))))))) (sSkip)
def L_read_connect_5 (G : G) (c : Calls) : SM := sSet 4 (xMeth c (G.mt 6) 32 (xVar 0) aNil)
def L_read_connect_6 (G : G) (c : Calls) : SM := sRet (xTup (aCons (xC (.str [99, 111, 110, 110, 101, 99, 116])) (aCons (xVar 1) (aCons (xVar 3) (aCons (xTup (aCons (xVar 4) (aCons (xMeth c (G.mt 6) 32 (xVar 0) aNil) (aCons (xBin oMod (xBin oDiv (xVar 2) (xC (.int 8))) (xC (.int 4))) (aCons (xBin oEq (xBin oMod (xBin oDiv (xVar 2) (xC (.int 32))) (xC (.int 2))) (xC (.int 1))) (aNil)))))) (aNil))))))
def L_read_connect (G : G) (c : Calls) : SM := sSeq (L_read_connect_1 G c) (sSeq (L_read_connect_2 G c) (sSeq (L_read_connect_3 G c) (sSeq (L_read_connect_4 G c) (sSeq (L_read_connect_5 G c) (L_read_connect_6 G c)))))
theorem L_read_connect_eq (G : G) (c : Calls) : B_read_connect G c = L_read_connect G c := rfl
def L_read_say_1 (G : G) (c : Calls) : SM := sSet 2 (xMeth c (G.mt 6) 32 (xVar 0) aNil)
def L_read_say_2 (G : G) (c : Calls) : SM := sSet 3 (xBin oMod (xBin oDiv (xVar 1) (xC (.int 2))) (xC (.int 4)))
def L_read_say_3 (G : G) (c : Calls) : SM := sSet 4 (xIf (xBin oGt (xVar 3) (xC (.int 0))) (xMeth c (G.mt 27) 32 (xVar 0) aNil) (xC (.int 0)))
def L_read_say_4 (G : G) (c : Calls) : SM := sSet 5 (xMeth c (G.mt 37) 32 (xVar 0) (aCons (xBin oSub (xB bLen (aCons (xFld 32 (G.ok 4) 4 (xVar 0)) (aNil))) (xFld 32 (G.ok 5) 5 (xVar 0))) (aNil)))
def L_read_say_5 (G : G) (c : Calls) : SM := sRet (xTup (aCons (xC (.str [115, 97, 121])) (aCons (xVar 2) (aCons (xVar 5) (aCons (xVar 3) (aCons (xBin oEq (xBin oMod (xVar 1) (xC (.int 2))) (xC (.int 1))) (aCons (xBin oEq (xBin oDiv (xVar 1) (xC (.int 8))) (xC (.int 1))) (aCons (xVar 4) (aNil)))))))))
def L_read_say (G : G) (c : Calls) : SM := sSeq (L_read_say_1 G c) (sSeq (L_read_say_2 G c) (sSeq (L_read_say_3 G c) (sSeq (L_read_say_4 G c) (L_read_say_5 G c))))
theorem L_read_say_eq (G : G) (c : Calls) : B_read_say G c = L_read_say G c := rfl
def L_read_some_1 (G : G) (c : Calls) : SM := sSet 2 (xMeth c (G.mt 27) 32 (xVar 0) aNil)
def L_read_some_2 (G : G) (c : Calls) : SM := sSet 3 (xMut (lLst (aNil)))
def L_read_some_3b_1e_1e_1 (G : G) (c : Calls) : SM := sSet 4 (xMeth c (G.mt 6) 32 (xVar 0) aNil)
def L_read_some_3b_1e_1e_2 (G : G) (c : Calls) : SM := sExpr (xApp (xVar 3) (xTup (aCons (xVar 4) (aCons (xMeth c (G.mt 2) 32 (xVar 0) aNil) (aNil)))))
def L_read_some_3b_1e_1e (G : G) (c : Calls) : SM := sSeq (L_read_some_3b_1e_1e_1 G c) (L_read_some_3b_1e_1e_2 G c)
def L_read_some_3b_1e_1 (G : G) (c : Calls) : SM := sIf (xBin oEq (xVar 1) (xC (.str [100, 114, 111, 112]))) (sExpr (xApp (xVar 3) (xMeth c (G.mt 6) 32 (xVar 0) aNil))) (L_read_some_3b_1e_1e G c)
def L_read_some_3b_1e (G : G) (c : Calls) : SM := L_read_some_3b_1e_1 G c
def L_read_some_3b_1 (G : G) (c : Calls) : SM := sIf (xBin oEq (xVar 1) (xC (.str [104, 101, 97, 114, 100]))) (sExpr (xApp (xVar 3) (xMeth c (G.mt 2) 32 (xVar 0) aNil))) (L_read_some_3b_1e G c)
def L_read_some_3b (G : G) (c : Calls) : SM := L_read_some_3b_1 G c
def L_read_some_3 (G : G) (c : Calls) : SM := sWhile (xNot (xMeth c (G.mt 18) 32 (xVar 0) aNil)) (L_read_some_3b G c)
def L_read_some_4 (G : G) (c : Calls) : SM := sRet (xTup (aCons (xVar 1) (aCons (xVar 2) (aCons (xTuple (xVar 3)) (aNil)))))
def L_read_some (G : G) (c : Calls) : SM := sSeq (L_read_some_1 G c) (sSeq (L_read_some_2 G c) (sSeq (L_read_some_3 G c) (L_read_some_4 G c)))
theorem L_read_some_eq (G : G) (c : Calls) : B_read_some G c = L_read_some G c := rfl
def L_read_rest_1 (G : G) (c : Calls) : SM := sIf (xBin oEq (xVar 0) (xC (.str [99, 111, 110, 110, 101, 99, 116]))) (sRet (xCall c 45 (aCons (xVar 2) (aNil)))) (sSkip)
def L_read_rest_2 (G : G) (c : Calls) : SM := sIf (xBin oEq (xVar 0) (xC (.str [103, 114, 101, 101, 116, 101, 100]))) (sRet (xTup (aCons (xC (.str [103, 114, 101, 101, 116, 101, 100])) (aCons (xBin oEq (xMeth c (G.mt 2) 32 (xVar 2) aNil) (xC (.int 1))) (aNil))))) (sSkip)
def L_read_rest_3 (G : G) (c : Calls) : SM := sIf (xBin oEq (xVar 0) (xC (.str [115, 97, 121]))) (sRet (xCall c 46 (aCons (xVar 2) (aCons (xVar 1) (aNil))))) (sSkip)
def L_read_rest_4 (G : G) (c : Calls) : SM := sIf (xBin oIn (xVar 0) (xTup (aCons (xC (.str [104, 101, 97, 114])) (aCons (xC (.str [104, 101, 97, 114, 100])) (aCons (xC (.str [100, 114, 111, 112])) (aNil)))))) (sRet (xCall c 47 (aCons (xVar 2) (aCons (xVar 0) (aNil))))) (sSkip)
def L_read_rest_5 (G : G) (c : Calls) : SM := sRet (xIf (xBin oIn (xVar 0) (xC (.lst [(.str [112, 105, 110, 103]), (.str [112, 111, 110, 103]), (.str [108, 101, 97, 118, 101])]))) (xTup (aCons (xVar 0) (aNil))) (xTup (aCons (xVar 0) (aCons (xMeth c (G.mt 27) 32 (xVar 2) aNil) (aNil)))))
def L_read_rest (G : G) (c : Calls) : SM := sSeq (L_read_rest_1 G c) (sSeq (L_read_rest_2 G c) (sSeq (L_read_rest_3 G c) (sSeq (L_read_rest_4 G c) (L_read_rest_5 G c))))
theorem L_read_rest_eq (G : G) (c : Calls) : B_read_rest G c = L_read_rest G c := rfl
def L_head_of_1 (G : G) (c : Calls) : SM := sIf (xAnd (xVar 0) (xNot (xChain oLe oLt (xC (.int 16)) (xBin oIx (xVar 0) (xC (.int 0))) (xBin oMul (xC (.int 16)) (xB bLen (aCons (xLst (lCat (xC (.lst [(.str []), (.str [99, 111, 110, 110, 101, 99, 116]), (.str [103, 114, 101, 101, 116, 101, 100]), (.str [115, 97, 121]), (.str [103, 111, 116]), (.str [104, 101, 108, 100]), (.str [102, 114, 101, 101]), (.str [100, 111, 110, 101]), (.str [104, 101, 97, 114]), (.str [104, 101, 97, 114, 100]), (.str [100, 114, 111, 112]), (.str [100, 114, 111, 112, 112, 101, 100])])) (xC (.lst [(.str [112, 105, 110, 103]), (.str [112, 111, 110, 103]), (.str [108, 101, 97, 118, 101])])))) (aNil))))))) (sRaise 3) (sSkip)
def L_head_of_2 (G : G) (c : Calls) : SM := sIf (xOr (xBin oLt (xB bLen (aCons (xVar 0) (aNil))) (xC (.int 2))) (xAnd (xBin oGe (xBin oIx (xVar 0) (xC (.int 1))) (xC (.int 128))) (xBin oLt (xB bLen (aCons (xVar 0) (aNil))) (xC (.int 3))))) (sRet (xC .non)) (sSkip)
def L_head_of_3 (G : G) (c : Calls) : SM := sSet 1 (xIf (xBin oLt (xBin oIx (xVar 0) (xC (.int 1))) (xC (.int 128))) (xBin oIx (xVar 0) (xC (.int 1))) (xBin oAdd (xBin oSub (xBin oIx (xVar 0) (xC (.int 1))) (xC (.int 128))) (xBin oMul (xC (.int 128)) (xBin oIx (xVar 0) (xC (.int 2))))))
def L_head_of_4 (G : G) (c : Calls) : SM := sIf (xOr (xAnd (xBin oGe (xBin oIx (xVar 0) (xC (.int 1))) (xC (.int 128))) (xNot (xChain oLe oLt (xC (.int 1)) (xBin oIx (xVar 0) (xC (.int 2))) (xC (.int 128))))) (xBin oGt (xVar 1) (xC (.int 2000)))) (sRaise 3) (sSkip)
def L_head_of_5 (G : G) (c : Calls) : SM := sRet (xTup (aCons (xBin oIx (xVar 0) (xC (.int 0))) (aCons (xVar 1) (aCons (xIf (xBin oLt (xBin oIx (xVar 0) (xC (.int 1))) (xC (.int 128))) (xC (.int 2)) (xC (.int 3))) (aNil)))))
def L_head_of (G : G) (c : Calls) : SM := sSeq (L_head_of_1 G c) (sSeq (L_head_of_2 G c) (sSeq (L_head_of_3 G c) (sSeq (L_head_of_4 G c) (L_head_of_5 G c))))
theorem L_head_of_eq (G : G) (c : Calls) : B_head_of G c = L_head_of G c := rfl
def L_read_packet_1 (G : G) (c : Calls) : SM := sSet 1 (xCall c 49 (aCons (xVar 0) (aNil)))
def L_read_packet_2 (G : G) (c : Calls) : SM := sIf (xOr (xBin oIs (xVar 1) (xC .non)) (xBin oNe (xB bLen (aCons (xVar 0) (aNil))) (xBin oAdd (xBin oIx (xVar 1) (xC (.int 1))) (xBin oIx (xVar 1) (xC (.int 2)))))) (sRaise 3) (sSkip)
def L_read_packet_3 (G : G) (c : Calls) : SM := sSet 2 (xMake c 12 39 (aCons (xVar 0) (aNil)))
def L_read_packet_4 (G : G) (c : Calls) : SM := sFld 32 (G.ok 5) 5 (xVar 2) (xBin oIx (xVar 1) (xC (.int 2)))
def L_read_packet_5 (G : G) (c : Calls) : SM := sSet 3 (xCall c 48 (aCons (xBin oIx (xLst (lCat (xC (.lst [(.str []), (.str [99, 111, 110, 110, 101, 99, 116]), (.str [103, 114, 101, 101, 116, 101, 100]), (.str [115, 97, 121]), (.str [103, 111, 116]), (.str [104, 101, 108, 100]), (.str [102, 114, 101, 101]), (.str [100, 111, 110, 101]), (.str [104, 101, 97, 114]), (.str [104, 101, 97, 114, 100]), (.str [100, 114, 111, 112]), (.str [100, 114, 111, 112, 112, 101, 100])])) (xC (.lst [(.str [112, 105, 110, 103]), (.str [112, 111, 110, 103]), (.str [108, 101, 97, 118, 101])])))) (xBin oDiv (xBin oIx (xVar 1) (xC (.int 0))) (xC (.int 16)))) (aCons (xBin oSub (xBin oIx (xVar 1) (xC (.int 0))) (xBin oMul (xBin oDiv (xBin oIx (xVar 1) (xC (.int 0))) (xC (.int 16))) (xC (.int 16)))) (aCons (xVar 2) (aNil)))))
def L_read_packet_6 (G : G) (c : Calls) : SM := sSet 4 (xC .non)
def L_read_packet_7b_1 (G : G) (c : Calls) : SM := sSet 4 (xCall c 38 (aCons (xVar 3) (aNil)))
def L_read_packet_7b (G : G) (c : Calls) : SM := L_read_packet_7b_1 G c
def L_read_packet_7 (G : G) (c : Calls) : SM := sTryR (L_read_packet_7b G c) (G.tk 2) 3
def L_read_packet_8 (G : G) (c : Calls) : SM := sIf (xBin oNe (xVar 4) (xVar 0)) (sRaise 3) (sSkip)
def L_read_packet_9 (G : G) (c : Calls) : SM := sRet (xVar 3)
def L_read_packet (G : G) (c : Calls) : SM := sSeq (L_read_packet_1 G c) (sSeq (L_read_packet_2 G c) (sSeq (L_read_packet_3 G c) (sSeq (L_read_packet_4 G c) (sSeq (L_read_packet_5 G c) (sSeq (L_read_packet_6 G c) (sSeq (L_read_packet_7 G c) (sSeq (L_read_packet_8 G c) (L_read_packet_9 G c))))))))
theorem L_read_packet_eq (G : G) (c : Calls) : B_read_packet G c = L_read_packet G c := rfl
def L_Pieces___init___1 (G : G) (c : Calls) : SM := sFld 32 (G.ok 4) 4 (xVar 0) (xLst (lLst (aNil)))
def L_Pieces___init___2 (G : G) (c : Calls) : SM := sFld 32 (G.ok 6) 6 (xVar 0) (xC (.bl false))
def L_Pieces___init__ (G : G) (c : Calls) : SM := sSeq (L_Pieces___init___1 G c) (L_Pieces___init___2 G c)
theorem L_Pieces___init___eq (G : G) (c : Calls) : B_Pieces___init__ G c = L_Pieces___init__ G c := rfl
def L_Pieces_feed_1 (G : G) (c : Calls) : SM := sSet 2 (xMut (lLst (aNil)))
def L_Pieces_feed_2 (G : G) (c : Calls) : SM := sFld 32 (G.ok 4) 4 (xVar 0) (xLst (lCat (xFld 32 (G.ok 4) 4 (xVar 0)) (xLst (lList (xVar 1)))))
def L_Pieces_feed_3b_1b_1 (G : G) (c : Calls) : SM := sSet 3 (xCall c 49 (aCons (xFld 32 (G.ok 4) 4 (xVar 0)) (aNil)))
def L_Pieces_feed_3b_1b_2 (G : G) (c : Calls) : SM := sIf (xOr (xBin oIs (xVar 3) (xC .non)) (xBin oLt (xB bLen (aCons (xFld 32 (G.ok 4) 4 (xVar 0)) (aNil))) (xBin oAdd (xBin oIx (xVar 3) (xC (.int 1))) (xBin oIx (xVar 3) (xC (.int 2)))))) (sBrk) (sSkip)
def L_Pieces_feed_3b_1b_3 (G : G) (c : Calls) : SM := sExpr (xApp (xVar 2) (xCall c 50 (aCons (xLst (lSl (xFld 32 (G.ok 4) 4 (xVar 0)) none (some (xBin oAdd (xBin oIx (xVar 3) (xC (.int 1))) (xBin oIx (xVar 3) (xC (.int 2))))))) (aNil))))
def L_Pieces_feed_3b_1b_4 (G : G) (c : Calls) : SM := sFld 32 (G.ok 4) 4 (xVar 0) (xLst (lSl (xFld 32 (G.ok 4) 4 (xVar 0)) (some (xBin oAdd (xBin oIx (xVar 3) (xC (.int 1))) (xBin oIx (xVar 3) (xC (.int 2))))) none))
def L_Pieces_feed_3b_1b (G : G) (c : Calls) : SM := sSeq (L_Pieces_feed_3b_1b_1 G c) (sSeq (L_Pieces_feed_3b_1b_2 G c) (sSeq (L_Pieces_feed_3b_1b_3 G c) (L_Pieces_feed_3b_1b_4 G c)))
def L_Pieces_feed_3b_1h_1 (G : G) (c : Calls) : SM := sFld 32 (G.ok 6) 6 (xVar 0) (xC (.bl true))
def L_Pieces_feed_3b_1h_2 (G : G) (c : Calls) : SM := sExpr (xApp (xVar 2) (xTup (aCons (xC (.str [98, 97, 100])) (aNil))))
def L_Pieces_feed_3b_1h (G : G) (c : Calls) : SM := sSeq (L_Pieces_feed_3b_1h_1 G c) (L_Pieces_feed_3b_1h_2 G c)
def L_Pieces_feed_3b_1 (G : G) (c : Calls) : SM := sTry (L_Pieces_feed_3b_1b G c) (G.tk 3) (hdNo (L_Pieces_feed_3b_1h G c))
def L_Pieces_feed_3b (G : G) (c : Calls) : SM := L_Pieces_feed_3b_1 G c
def L_Pieces_feed_3 (G : G) (c : Calls) : SM := sWhile (xNot (xFld 32 (G.ok 6) 6 (xVar 0))) (L_Pieces_feed_3b G c)
def L_Pieces_feed_4 (G : G) (c : Calls) : SM := sRet (xFrz (xVar 2))
def L_Pieces_feed (G : G) (c : Calls) : SM := sSeq (L_Pieces_feed_1 G c) (sSeq (L_Pieces_feed_2 G c) (sSeq (L_Pieces_feed_3 G c) (L_Pieces_feed_4 G c)))
theorem L_Pieces_feed_eq (G : G) (c : Calls) : B_Pieces_feed G c = L_Pieces_feed G c := rfl
def L_look_ends_1 (G : G) (c : Calls) : SM := sIf (xOr (xNot (xChain oLe oLe (xC (.int 1)) (xVar 0) (xC (.int 20)))) (xNot (xChain oLe oLe (xVar 0) (xVar 1) (xC (.int 65535))))) (sRaise 4) (sSkip)
def L_look_ends (G : G) (c : Calls) : SM := L_look_ends_1 G c
theorem L_look_ends_eq (G : G) (c : Calls) : B_look_ends G c = L_look_ends G c := rfl
def L_Giver___init___1 (G : G) (c : Calls) : SM := sExpr (xCall c 53 (aCons (xVar 1) (aCons (xVar 2) (aNil))))
def L_Giver___init___2 (G : G) (c : Calls) : SM := sFld 32 (G.ok 7) 7 (xVar 0) (xVar 1)
def L_Giver___init___3 (G : G) (c : Calls) : SM := sFld 32 (G.ok 8) 8 (xVar 0) (xVar 2)
def L_Giver___init___4 (G : G) (c : Calls) : SM := sFld 32 (G.ok 9) 9 (xVar 0) (xC (.int 0))
def L_Giver___init___5 (G : G) (c : Calls) : SM := sFld 32 (G.ok 10) 10 (xVar 0) (xMut (lLst (aNil)))
def L_Giver___init___6 (G : G) (c : Calls) : SM := sFld 32 (G.ok 11) 11 (xVar 0) (xMut (lLst (aNil)))
def L_Giver___init__ (G : G) (c : Calls) : SM := sSeq (L_Giver___init___1 G c) (sSeq (L_Giver___init___2 G c) (sSeq (L_Giver___init___3 G c) (sSeq (L_Giver___init___4 G c) (sSeq (L_Giver___init___5 G c) (L_Giver___init___6 G c)))))
theorem L_Giver___init___eq (G : G) (c : Calls) : B_Giver___init__ G c = L_Giver___init__ G c := rfl
def L_Giver_number_1 (G : G) (c : Calls) : SM := sSet 1 (xLst (lComp (iVal (xFld 32 (G.ok 11) 11 (xVar 0))) (.name 2) none (xBin oIx (xVar 2) (xC (.int 0))) [2]))
def L_Giver_number_2 (G : G) (c : Calls) : SM := sFld 32 (G.ok 9) 9 (xVar 0) (xIf (xBin oLt (xFld 32 (G.ok 9) 9 (xVar 0)) (xFld 32 (G.ok 8) 8 (xVar 0))) (xBin oAdd (xFld 32 (G.ok 9) 9 (xVar 0)) (xC (.int 1))) (xC (.int 1)))
def L_Giver_number_3b_1 (G : G) (c : Calls) : SM := sFld 32 (G.ok 9) 9 (xVar 0) (xIf (xBin oLt (xFld 32 (G.ok 9) 9 (xVar 0)) (xFld 32 (G.ok 8) 8 (xVar 0))) (xBin oAdd (xFld 32 (G.ok 9) 9 (xVar 0)) (xC (.int 1))) (xC (.int 1)))
def L_Giver_number_3b (G : G) (c : Calls) : SM := L_Giver_number_3b_1 G c
def L_Giver_number_3 (G : G) (c : Calls) : SM := sWhile (xBin oIn (xFld 32 (G.ok 9) 9 (xVar 0)) (xVar 1)) (L_Giver_number_3b G c)
def L_Giver_number_4 (G : G) (c : Calls) : SM := sRet (xFld 32 (G.ok 9) 9 (xVar 0))
def L_Giver_number (G : G) (c : Calls) : SM := sSeq (L_Giver_number_1 G c) (sSeq (L_Giver_number_2 G c) (sSeq (L_Giver_number_3 G c) (L_Giver_number_4 G c)))
theorem L_Giver_number_eq (G : G) (c : Calls) : B_Giver_number G c = L_Giver_number G c := rfl
def L_Giver_pump_1 (G : G) (c : Calls) : SM := sSet 1 (xMut (lLst (aNil)))
def L_Giver_pump_2b_1 (G : G) (c : Calls) : SM := sTgt (.tup [3, 4, 5, 6]) (xBin oIx (xFld 32 (G.ok 10) 10 (xVar 0)) (xC (.int 0)))
def L_Giver_pump_2b_2 (G : G) (c : Calls) : SM := sFld 32 (G.ok 10) 10 (xVar 0) (xMut (lSl (xFld 32 (G.ok 10) 10 (xVar 0)) (some (xC (.int 1))) none))
def L_Giver_pump_2b_3 (G : G) (c : Calls) : SM := sSet 2 (xMeth c (G.mt 27) 32 (xVar 0) aNil)
def L_Giver_pump_2b_4 (G : G) (c : Calls) : SM := sExpr (xApp (xFld 32 (G.ok 11) 11 (xVar 0)) (xTup (aCons (xVar 2) (aCons (xVar 5) (aCons (xTup (aCons (xVar 3) (aCons (xVar 4) (aCons (xVar 5) (aCons (xVar 6) (aNil)))))) (aNil))))))
def L_Giver_pump_2b_5 (G : G) (c : Calls) : SM := sExpr (xApp (xVar 1) (xTup (aCons (xC (.str [115, 97, 121])) (aCons (xVar 3) (aCons (xVar 4) (aCons (xVar 5) (aCons (xVar 6) (aCons (xC (.bl false)) (aCons (xVar 2) (aNil))))))))))
def L_Giver_pump_2b (G : G) (c : Calls) : SM := sSeq (L_Giver_pump_2b_1 G c) (sSeq (L_Giver_pump_2b_2 G c) (sSeq (L_Giver_pump_2b_3 G c) (sSeq (L_Giver_pump_2b_4 G c) (L_Giver_pump_2b_5 G c))))
def L_Giver_pump_2 (G : G) (c : Calls) : SM := sWhile (xAnd (xFld 32 (G.ok 10) 10 (xVar 0)) (xBin oLt (xB bLen (aCons (xFld 32 (G.ok 11) 11 (xVar 0)) (aNil))) (xFld 32 (G.ok 7) 7 (xVar 0)))) (L_Giver_pump_2b G c)
def L_Giver_pump_3 (G : G) (c : Calls) : SM := sRet (xFrz (xVar 1))
def L_Giver_pump (G : G) (c : Calls) : SM := sSeq (L_Giver_pump_1 G c) (sSeq (L_Giver_pump_2 G c) (L_Giver_pump_3 G c))
theorem L_Giver_pump_eq (G : G) (c : Calls) : B_Giver_pump G c = L_Giver_pump G c := rfl
def L_Giver_keep_1 (G : G) (c : Calls) : SM := sExpr (xCall c 28 (aCons (xVar 1) (aCons (xVar 2) (aCons (xVar 3) (aCons (xVar 4) (aNil))))))
def L_Giver_keep_2 (G : G) (c : Calls) : SM := sIf (xBin oGt (xVar 3) (xC (.int 0))) (sExpr (xApp (xFld 32 (G.ok 10) 10 (xVar 0)) (xTup (aCons (xVar 1) (aCons (xVar 2) (aCons (xVar 3) (aCons (xVar 4) (aNil)))))))) (sSkip)
def L_Giver_keep (G : G) (c : Calls) : SM := sSeq (L_Giver_keep_1 G c) (L_Giver_keep_2 G c)
theorem L_Giver_keep_eq (G : G) (c : Calls) : B_Giver_keep G c = L_Giver_keep G c := rfl
def L_Giver_say_1 (G : G) (c : Calls) : SM := sExpr (xCall c 28 (aCons (xVar 1) (aCons (xVar 2) (aCons (xVar 3) (aCons (xVar 4) (aNil))))))
def L_Giver_say_2 (G : G) (c : Calls) : SM := sIf (xBin oEq (xVar 3) (xC (.int 0))) (sRet (xLst (lLst (aCons (xTup (aCons (xC (.str [115, 97, 121])) (aCons (xVar 1) (aCons (xVar 2) (aCons (xC (.int 0)) (aCons (xVar 4) (aCons (xC (.bl false)) (aCons (xC (.int 0)) (aNil))))))))) (aNil))))) (sSkip)
def L_Giver_say_3 (G : G) (c : Calls) : SM := sExpr (xMeth c (G.mt 20) 32 (xVar 0) (aCons (xVar 1) (aCons (xVar 2) (aCons (xVar 3) (aCons (xVar 4) (aNil))))))
def L_Giver_say_4 (G : G) (c : Calls) : SM := sRet (xMeth c (G.mt 30) 32 (xVar 0) aNil)
def L_Giver_say (G : G) (c : Calls) : SM := sSeq (L_Giver_say_1 G c) (sSeq (L_Giver_say_2 G c) (sSeq (L_Giver_say_3 G c) (L_Giver_say_4 G c)))
theorem L_Giver_say_eq (G : G) (c : Calls) : B_Giver_say G c = L_Giver_say G c := rfl
def L_Giver_place_of_1 (G : G) (c : Calls) : SM := sSet 3 (xLst (lComp (iRng1 (xB bLen (aCons (xFld 32 (G.ok 11) 11 (xVar 0)) (aNil)))) (.name 4) (some (xBin oEq (xSl (xBin oIx (xFld 32 (G.ok 11) 11 (xVar 0)) (xVar 4)) none (some (xC (.int 2)))) (xTup (aCons (xVar 1) (aCons (xVar 2) (aNil)))))) (xVar 4) [4]))
def L_Giver_place_of_2 (G : G) (c : Calls) : SM := sRet (xIf (xVar 3) (xBin oIx (xVar 3) (xC (.int 0))) (xC .non))
def L_Giver_place_of (G : G) (c : Calls) : SM := sSeq (L_Giver_place_of_1 G c) (L_Giver_place_of_2 G c)
theorem L_Giver_place_of_eq (G : G) (c : Calls) : B_Giver_place_of G c = L_Giver_place_of G c := rfl
def L_Giver_took_1 (G : G) (c : Calls) : SM := sTgt (.tup [3, 4]) (xVar 1)
def L_Giver_took_2t_1 (G : G) (c : Calls) : SM := sSet 2 (xMeth c (G.mt 28) 32 (xVar 0) (aCons (xVar 4) (aCons (xC (.int 2)) (aNil))))
def L_Giver_took_2t_2 (G : G) (c : Calls) : SM := sIf (xBin oIsNot (xVar 2) (xC .non)) (sSetL (xFld 32 (G.ok 11) 11 (xVar 0)) (xVar 2) (xTup (aCons (xVar 4) (aCons (xC (.int 3)) (aCons (xC .non) (aNil)))))) (sSkip)
def L_Giver_took_2t_3 (G : G) (c : Calls) : SM := sRet (xIf (xOr (xBin oIsNot (xVar 2) (xC .non)) (xBin oIsNot (xMeth c (G.mt 28) 32 (xVar 0) (aCons (xVar 4) (aCons (xC (.int 3)) (aNil)))) (xC .non))) (xLst (lLst (aCons (xTup (aCons (xC (.str [102, 114, 101, 101])) (aCons (xVar 4) (aNil)))) (aNil)))) (xLst (lLst (aNil))))
def L_Giver_took_2t (G : G) (c : Calls) : SM := sSeq (L_Giver_took_2t_1 G c) (sSeq (L_Giver_took_2t_2 G c) (L_Giver_took_2t_3 G c))
def L_Giver_took_2 (G : G) (c : Calls) : SM := sIf (xBin oEq (xVar 3) (xC (.str [104, 101, 108, 100]))) (L_Giver_took_2t G c) (sSkip)
def L_Giver_took_3 (G : G) (c : Calls) : SM := sSet 2 (xMeth c (G.mt 28) 32 (xVar 0) (aCons (xVar 4) (aCons (xIf (xBin oEq (xVar 3) (xC (.str [103, 111, 116]))) (xC (.int 1)) (xC (.int 3))) (aNil))))
def L_Giver_took_4 (G : G) (c : Calls) : SM := sIf (xBin oIs (xVar 2) (xC .non)) (sRet (xLst (lLst (aNil)))) (sSkip)
def L_Giver_took_5 (G : G) (c : Calls) : SM := sFld 32 (G.ok 11) 11 (xVar 0) (xMut (lCat (xLst (lSl (xFld 32 (G.ok 11) 11 (xVar 0)) none (some (xVar 2)))) (xLst (lSl (xFld 32 (G.ok 11) 11 (xVar 0)) (some (xBin oAdd (xVar 2) (xC (.int 1)))) none))))
def L_Giver_took_6 (G : G) (c : Calls) : SM := sRet (xMeth c (G.mt 30) 32 (xVar 0) aNil)
def L_Giver_took (G : G) (c : Calls) : SM := sSeq (L_Giver_took_1 G c) (sSeq (L_Giver_took_2 G c) (sSeq (L_Giver_took_3 G c) (sSeq (L_Giver_took_4 G c) (sSeq (L_Giver_took_5 G c) (L_Giver_took_6 G c)))))
theorem L_Giver_took_eq (G : G) (c : Calls) : B_Giver_took G c = L_Giver_took G c := rfl
def L_Giver_again_1 (G : G) (c : Calls) : SM := sSet 1 (xMut (lLst (aNil)))
def L_Giver_again_2b_1 (G : G) (c : Calls) : SM := sIf (xBin oIs (xVar 4) (xC .non)) (sExpr (xApp (xVar 1) (xTup (aCons (xC (.str [102, 114, 101, 101])) (aCons (xVar 2) (aNil)))))) (sExpr (xApp (xVar 1) (xBin oAdd (xBin oAdd (xTup (aCons (xC (.str [115, 97, 121])) (aNil))) (xVar 4)) (xTup (aCons (xC (.bl true)) (aCons (xVar 2) (aNil)))))))
def L_Giver_again_2b (G : G) (c : Calls) : SM := L_Giver_again_2b_1 G c
def L_Giver_again_2 (G : G) (c : Calls) : SM := sFor (iVal (xFld 32 (G.ok 11) 11 (xVar 0))) (.tup [2, 3, 4]) (L_Giver_again_2b G c)
def L_Giver_again_3 (G : G) (c : Calls) : SM := sRet (xMut (lCat (xVar 1) (xMeth c (G.mt 30) 32 (xVar 0) aNil)))
def L_Giver_again (G : G) (c : Calls) : SM := sSeq (L_Giver_again_1 G c) (sSeq (L_Giver_again_2 G c) (L_Giver_again_3 G c))
theorem L_Giver_again_eq (G : G) (c : Calls) : B_Giver_again G c = L_Giver_again G c := rfl
def L_Taker_took_1t_1 (G : G) (c : Calls) : SM := sFld 32 (G.ok 12) 12 (xVar 0) (xMut (lComp (iVal (xFld 32 (G.ok 12) 12 (xVar 0))) (.name 3) (some (xBin oNe (xVar 3) (xBin oIx (xVar 1) (xC (.int 1))))) (xVar 3) [3]))
def L_Taker_took_1t_2 (G : G) (c : Calls) : SM := sRet (xTup (aCons (xLst (lLst (aCons (xTup (aCons (xC (.str [100, 111, 110, 101])) (aCons (xBin oIx (xVar 1) (xC (.int 1))) (aNil)))) (aNil)))) (aCons (xLst (lLst (aNil))) (aNil))))
def L_Taker_took_1t (G : G) (c : Calls) : SM := sSeq (L_Taker_took_1t_1 G c) (L_Taker_took_1t_2 G c)
def L_Taker_took_1 (G : G) (c : Calls) : SM := sIf (xBin oEq (xBin oIx (xVar 1) (xC (.int 0))) (xC (.str [102, 114, 101, 101]))) (L_Taker_took_1t G c) (sSkip)
def L_Taker_took_2 (G : G) (c : Calls) : SM := sSet 2 (xSl (xVar 1) (some (xC (.int 1))) (some (xC (.int 5))))
def L_Taker_took_3 (G : G) (c : Calls) : SM := sIf (xBin oEq (xBin oIx (xVar 1) (xC (.int 3))) (xC (.int 0))) (sRet (xTup (aCons (xLst (lLst (aNil))) (aCons (xLst (lLst (aCons (xVar 2) (aNil)))) (aNil))))) (sSkip)
def L_Taker_took_4 (G : G) (c : Calls) : SM := sIf (xBin oEq (xBin oIx (xVar 1) (xC (.int 3))) (xC (.int 1))) (sRet (xTup (aCons (xLst (lLst (aCons (xTup (aCons (xC (.str [103, 111, 116])) (aCons (xBin oIx (xVar 1) (xC (.int 6))) (aNil)))) (aNil)))) (aCons (xLst (lLst (aCons (xVar 2) (aNil)))) (aNil))))) (sSkip)
def L_Taker_took_5 (G : G) (c : Calls) : SM := sIf (xBin oIn (xBin oIx (xVar 1) (xC (.int 6))) (xFld 32 (G.ok 12) 12 (xVar 0))) (sRet (xTup (aCons (xLst (lLst (aCons (xTup (aCons (xC (.str [104, 101, 108, 100])) (aCons (xBin oIx (xVar 1) (xC (.int 6))) (aNil)))) (aNil)))) (aCons (xLst (lLst (aNil))) (aNil))))) (sSkip)
def L_Taker_took_6 (G : G) (c : Calls) : SM := sExpr (xApp (xFld 32 (G.ok 12) 12 (xVar 0)) (xBin oIx (xVar 1) (xC (.int 6))))
def L_Taker_took_7 (G : G) (c : Calls) : SM := sRet (xTup (aCons (xLst (lLst (aCons (xTup (aCons (xC (.str [104, 101, 108, 100])) (aCons (xBin oIx (xVar 1) (xC (.int 6))) (aNil)))) (aNil)))) (aCons (xLst (lLst (aCons (xVar 2) (aNil)))) (aNil))))
def L_Taker_took (G : G) (c : Calls) : SM := sSeq (L_Taker_took_1 G c) (sSeq (L_Taker_took_2 G c) (sSeq (L_Taker_took_3 G c) (sSeq (L_Taker_took_4 G c) (sSeq (L_Taker_took_5 G c) (sSeq (L_Taker_took_6 G c) (L_Taker_took_7 G c))))))
theorem L_Taker_took_eq (G : G) (c : Calls) : B_Taker_took G c = L_Taker_took G c := rfl
def L_look_rules_1 (G : G) (c : Calls) : SM := sIf (xBin oGt (xB bLen (aCons (xVar 0) (aNil))) (xC (.int 12))) (sRaise 1) (sSkip)
def L_look_rules_2b_1 (G : G) (c : Calls) : SM := sIf (xOr (xBin oNe (xB bLen (aCons (xVar 1) (aNil))) (xC (.int 4))) (xOr (xBin oNotIn (xBin oIx (xVar 1) (xC (.int 0))) (xTup (aCons (xC (.bl true)) (aCons (xC (.bl false)) (aNil))))) (xBin oNotIn (xBin oIx (xVar 1) (xC (.int 2))) (xTup (aCons (xC (.str [115, 97, 121])) (aCons (xC (.str [104, 101, 97, 114])) (aCons (xC (.str [98, 111, 116, 104])) (aNil)))))))) (sRaise 1) (sSkip)
def L_look_rules_2b_2 (G : G) (c : Calls) : SM := sIf (xBin oNe (xBin oIx (xVar 1) (xC (.int 1))) (xC (.str []))) (sExpr (xCall c 3 (aCons (xBin oIx (xVar 1) (xC (.int 1))) (aNil)))) (sSkip)
def L_look_rules_2b_3 (G : G) (c : Calls) : SM := sExpr (xCall c 2 (aCons (xBin oIx (xVar 1) (xC (.int 3))) (aNil)))
def L_look_rules_2b (G : G) (c : Calls) : SM := sSeq (L_look_rules_2b_1 G c) (sSeq (L_look_rules_2b_2 G c) (L_look_rules_2b_3 G c))
def L_look_rules_2 (G : G) (c : Calls) : SM := sFor (iVal (xVar 0)) (.name 1) (L_look_rules_2b G c)
def L_look_rules (G : G) (c : Calls) : SM := sSeq (L_look_rules_1 G c) (L_look_rules_2 G c)
theorem L_look_rules_eq (G : G) (c : Calls) : B_look_rules G c = L_look_rules G c := rfl
def L_may_say_1 (G : G) (c : Calls) : SM := sExpr (xCall c 65 (aCons (xVar 0) (aNil)))
def L_may_say_2 (G : G) (c : Calls) : SM := sExpr (xCall c 3 (aCons (xVar 1) (aNil)))
def L_may_say_3 (G : G) (c : Calls) : SM := sExpr (xCall c 1 (aCons (xVar 2) (aNil)))
def L_may_say_4b_1 (G : G) (c : Calls) : SM := sIf (xCall c 7 (aCons (xVar 4) (aCons (xVar 2) (aNil)))) (sRet (xVar 3)) (sSkip)
def L_may_say_4b (G : G) (c : Calls) : SM := L_may_say_4b_1 G c
def L_may_say_4 (G : G) (c : Calls) : SM := sFor (iVal (xCall c 66 (aCons (xVar 0) (aCons (xVar 1) (aCons (xC (.str [115, 97, 121])) (aNil)))))) (.tup [3, 4]) (L_may_say_4b G c)
def L_may_say_5 (G : G) (c : Calls) : SM := sRet (xC (.bl true))
def L_may_say (G : G) (c : Calls) : SM := sSeq (L_may_say_1 G c) (sSeq (L_may_say_2 G c) (sSeq (L_may_say_3 G c) (sSeq (L_may_say_4 G c) (L_may_say_5 G c))))
theorem L_may_say_eq (G : G) (c : Calls) : B_may_say G c = L_may_say G c := rfl
def L_stepped_1 (G : G) (c : Calls) : SM := sSet 3 (xMut (lLst (aNil)))
def L_stepped_2b_1t_1e_1 (G : G) (c : Calls) : SM := sIf (xBin oIn (xBin oIx (xVar 5) (xC (.int 0))) (xTup (aCons (xC (.str [43])) (aCons (xVar 1) (aNil))))) (sExpr (xApp (xVar 3) (xTup (aCons (xVar 4) (aCons (xSl (xVar 5) (some (xC (.int 1))) none) (aNil)))))) (sSkip)
def L_stepped_2b_1t_1e (G : G) (c : Calls) : SM := L_stepped_2b_1t_1e_1 G c
def L_stepped_2b_1t_1 (G : G) (c : Calls) : SM := sIf (xBin oEq (xBin oIx (xVar 5) (xC (.int 0))) (xC (.str [35]))) (sExpr (xApp (xVar 3) (xTup (aCons (xVar 4) (aCons (xVar 5) (aNil)))))) (L_stepped_2b_1t_1e G c)
def L_stepped_2b_1t (G : G) (c : Calls) : SM := L_stepped_2b_1t_1 G c
def L_stepped_2b_1 (G : G) (c : Calls) : SM := sIf (xAnd (xSl (xVar 5) none (some (xC (.int 1)))) (xNot (xAnd (xVar 2) (xAnd (xCall c 5 (aCons (xBin oIx (xVar 5) (xC (.int 0))) (aNil))) (xBm isStr oStarts (xVar 1) (xC (.str [36]))))))) (L_stepped_2b_1t G c) (sSkip)
def L_stepped_2b (G : G) (c : Calls) : SM := L_stepped_2b_1 G c
def L_stepped_2 (G : G) (c : Calls) : SM := sFor (iVal (xVar 0)) (.tup [4, 5]) (L_stepped_2b G c)
def L_stepped_3 (G : G) (c : Calls) : SM := sRet (xFrz (xVar 3))
def L_stepped (G : G) (c : Calls) : SM := sSeq (L_stepped_1 G c) (sSeq (L_stepped_2 G c) (L_stepped_3 G c))
theorem L_stepped_eq (G : G) (c : Calls) : B_stepped G c = L_stepped G c := rfl
def L_is_let_here_1b_1 (G : G) (c : Calls) : SM := sIf (xOr (xNot (xVar 2)) (xBin oEq (xVar 2) (xTup (aCons (xC (.str [35])) (aNil))))) (sRet (xVar 1)) (sSkip)
def L_is_let_here_1b (G : G) (c : Calls) : SM := L_is_let_here_1b_1 G c
def L_is_let_here_1 (G : G) (c : Calls) : SM := sFor (iVal (xVar 0)) (.tup [1, 2]) (L_is_let_here_1b G c)
def L_is_let_here_2 (G : G) (c : Calls) : SM := sRet (xC (.bl true))
def L_is_let_here (G : G) (c : Calls) : SM := sSeq (L_is_let_here_1 G c) (L_is_let_here_2 G c)
theorem L_is_let_here_eq (G : G) (c : Calls) : B_is_let_here G c = L_is_let_here G c := rfl
def L_choices_1 (G : G) (c : Calls) : SM := sIf (xNot (xCall c 5 (aCons (xBin oIx (xVar 0) (xC (.int 0))) (aNil)))) (sRet (xLst (lLst (aCons (xBin oIx (xVar 0) (xC (.int 0))) (aNil))))) (sSkip)
def L_choices_2 (G : G) (c : Calls) : SM := sSet 3 (xLst (lSortSet (xLst (lComp (iVal (xVar 1)) (.tup [5, 6]) (some (xAnd (xSl (xVar 6) none (some (xC (.int 1)))) (xNot (xCall c 5 (aCons (xBin oIx (xVar 6) (xC (.int 0))) (aNil)))))) (xBin oIx (xVar 6) (xC (.int 0))) [5, 6]))))
def L_choices_3 (G : G) (c : Calls) : SM := sIf (xVar 2) (sSet 3 (xLst (lComp (iVal (xVar 3)) (.name 4) (some (xNot (xBm isStr oStarts (xVar 4) (xC (.str [36]))))) (xVar 4) [4]))) (sSkip)
def L_choices_4 (G : G) (c : Calls) : SM := sRet (xLst (lCat (xVar 3) (xLst (lLst (aCons (xBin oIx (xLst (lComp (iVal (xC (.str [97, 98, 99, 100, 101, 102, 103, 104, 105, 106, 107, 108, 109, 110, 111, 112, 113, 114, 115, 116, 117, 118, 119, 120, 121, 122]))) (.name 7) (some (xBin oNotIn (xVar 7) (xVar 3))) (xVar 7) [7])) (xC (.int 0))) (aNil))))))
def L_choices (G : G) (c : Calls) : SM := sSeq (L_choices_1 G c) (sSeq (L_choices_2 G c) (sSeq (L_choices_3 G c) (L_choices_4 G c)))
theorem L_choices_eq (G : G) (c : Calls) : B_choices G c = L_choices G c := rfl
def L_Search_go_1 (G : G) (c : Calls) : SM := sSet 4 (xTup (aCons (xVar 1) (aCons (xTuple (xVar 2)) (aCons (xB bLen (aCons (xVar 3) (aNil))) (aCons (xBin oEq (xVar 3) (xTup (aCons (xC (.str [])) (aNil)))) (aNil))))))
def L_Search_go_2 (G : G) (c : Calls) : SM := sIf (xDNotIn (xVar 4) (xFld 32 (G.ok 13) 13 (xVar 0))) (sDPut (xFld 32 (G.ok 13) 13 (xVar 0)) (xVar 4) (xMeth c (G.mt 10) 32 (xVar 0) (aCons (xVar 1) (aCons (xVar 2) (aCons (xVar 3) (aNil)))))) (sSkip)
def L_Search_go_3 (G : G) (c : Calls) : SM := sRet (xDGet (xFld 32 (G.ok 13) 13 (xVar 0)) (xVar 4))
def L_Search_go (G : G) (c : Calls) : SM := sSeq (L_Search_go_1 G c) (sSeq (L_Search_go_2 G c) (L_Search_go_3 G c))
theorem L_Search_go_eq (G : G) (c : Calls) : B_Search_go G c = L_Search_go G c := rfl
def L_Search_found_1 (G : G) (c : Calls) : SM := sSet 4 (xAnd (xBin oNe (xVar 3) (xTup (aNil))) (xAnd (xBin oNe (xVar 3) (xTup (aCons (xC (.str [])) (aNil)))) (xOr (xBin oEq (xVar 1) (xTup (aNil))) (xBin oEq (xVar 1) (xTup (aCons (xC (.str [35])) (aNil)))))))
def L_Search_found_2 (G : G) (c : Calls) : SM := sIf (xAnd (xVar 4) (xNot (xCall c 69 (aCons (xVar 2) (aNil))))) (sRet (xTup (aNil))) (sSkip)
def L_Search_found_3 (G : G) (c : Calls) : SM := sIf (xOr (xBin oEq (xVar 1) (xTup (aNil))) (xBin oEq (xB bLen (aCons (xVar 3) (aNil))) (xC (.int 8)))) (sRet (xC .non)) (sSkip)
def L_Search_found_4b_1 (G : G) (c : Calls) : SM := sSet 6 (xIf (xBin oEq (xBin oIx (xVar 1) (xC (.int 0))) (xC (.str [35]))) (xVar 1) (xSl (xVar 1) (some (xC (.int 1))) none))
def L_Search_found_4b_2 (G : G) (c : Calls) : SM := sSet 7 (xMeth c (G.mt 11) 32 (xVar 0) (aCons (xVar 6) (aCons (xCall c 68 (aCons (xVar 2) (aCons (xVar 5) (aCons (xBin oEq (xVar 3) (xTup (aNil))) (aNil))))) (aCons (xBin oAdd (xVar 3) (xTup (aCons (xVar 5) (aNil)))) (aNil)))))
def L_Search_found_4b_3 (G : G) (c : Calls) : SM := sIf (xBin oIsNot (xVar 7) (xC .non)) (sRet (xBin oAdd (xTup (aCons (xVar 5) (aNil))) (xVar 7))) (sSkip)
def L_Search_found_4b (G : G) (c : Calls) : SM := sSeq (L_Search_found_4b_1 G c) (sSeq (L_Search_found_4b_2 G c) (L_Search_found_4b_3 G c))
def L_Search_found_4 (G : G) (c : Calls) : SM := sFor (iVal (xCall c 70 (aCons (xVar 1) (aCons (xVar 2) (aCons (xBin oEq (xVar 3) (xTup (aNil))) (aNil)))))) (.name 5) (L_Search_found_4b G c)
def L_Search_found_5 (G : G) (c : Calls) : SM := sRet (xC .non)
def L_Search_found (G : G) (c : Calls) : SM := sSeq (L_Search_found_1 G c) (sSeq (L_Search_found_2 G c) (sSeq (L_Search_found_3 G c) (sSeq (L_Search_found_4 G c) (L_Search_found_5 G c))))
theorem L_Search_found_eq (G : G) (c : Calls) : B_Search_found G c = L_Search_found G c := rfl
def L_may_hear_1 (G : G) (c : Calls) : SM := sExpr (xCall c 65 (aCons (xVar 0) (aNil)))
def L_may_hear_2 (G : G) (c : Calls) : SM := sExpr (xCall c 3 (aCons (xVar 1) (aNil)))
def L_may_hear_3 (G : G) (c : Calls) : SM := sExpr (xCall c 2 (aCons (xVar 2) (aNil)))
def L_may_hear_4 (G : G) (c : Calls) : SM := sSet 3 (xLst (lComp (iVal (xCall c 66 (aCons (xVar 0) (aCons (xVar 1) (aCons (xC (.str [104, 101, 97, 114])) (aNil)))))) (.tup [5, 6]) none (xTup (aCons (xVar 5) (aCons (xTuple (xLst (lSplit (xVar 6) (xC (.str [47]))))) (aNil)))) [5, 6]))
def L_may_hear_5 (G : G) (c : Calls) : SM := sSet 4 (xMeth c (G.mt 11) 32 (xMake c 16 71 aNil) (aCons (xTuple (xLst (lSplit (xVar 2) (xC (.str [47]))))) (aCons (xVar 3) (aCons (xTup (aNil)) (aNil)))))
def L_may_hear_6 (G : G) (c : Calls) : SM := sRet (xIf (xBin oIs (xVar 4) (xC .non)) (xC .non) (xBm isStr oJoin (xC (.str [47])) (xVar 4)))
def L_may_hear (G : G) (c : Calls) : SM := sSeq (L_may_hear_1 G c) (sSeq (L_may_hear_2 G c) (sSeq (L_may_hear_3 G c) (sSeq (L_may_hear_4 G c) (sSeq (L_may_hear_5 G c) (L_may_hear_6 G c)))))
theorem L_may_hear_eq (G : G) (c : Calls) : B_may_hear G c = L_may_hear G c := rfl
def L_Session___init___1 (G : G) (c : Calls) : SM := sFld 32 (G.ok 14) 14 (xVar 0) (xMake c 14 54 (aCons (xVar 1) (aCons (xVar 2) (aNil))))
def L_Session___init___2 (G : G) (c : Calls) : SM := sFld 32 (G.ok 15) 15 (xVar 0) (xMake c 15 63 aNil)
def L_Session___init___3 (G : G) (c : Calls) : SM := sFld 32 (G.ok 16) 16 (xVar 0) (xC .non)
def L_Session___init___4 (G : G) (c : Calls) : SM := sFld 32 (G.ok 17) 17 (xVar 0) (xC (.bl false))
def L_Session___init___5 (G : G) (c : Calls) : SM := sFld 32 (G.ok 18) 18 (xVar 0) (xC .non)
def L_Session___init__ (G : G) (c : Calls) : SM := sSeq (L_Session___init___1 G c) (sSeq (L_Session___init___2 G c) (sSeq (L_Session___init___3 G c) (sSeq (L_Session___init___4 G c) (L_Session___init___5 G c))))
theorem L_Session___init___eq (G : G) (c : Calls) : B_Session___init__ G c = L_Session___init__ G c := rfl
def L_group_of_1 (G : G) (c : Calls) : SM := sSet 1 (xLst (lSplit (xVar 0) (xC (.str [47]))))
def L_group_of_2 (G : G) (c : Calls) : SM := sRet (xIf (xAnd (xBin oEq (xBin oIx (xVar 1) (xC (.int 0))) (xC (.str [36, 115, 104, 97, 114, 101]))) (xBin oGt (xB bLen (aCons (xVar 1) (aNil))) (xC (.int 2)))) (xTup (aCons (xBin oIx (xVar 1) (xC (.int 1))) (aCons (xBm isStr oJoin (xC (.str [47])) (xLst (lSl (xVar 1) (some (xC (.int 2))) none))) (aNil)))) (xC .non))
def L_group_of (G : G) (c : Calls) : SM := sSeq (L_group_of_1 G c) (L_group_of_2 G c)
theorem L_group_of_eq (G : G) (c : Calls) : B_group_of G c = L_group_of G c := rfl
def L_House___init___1 (G : G) (c : Calls) : SM := sExpr (xCall c 53 (aCons (xVar 1) (aCons (xVar 2) (aNil))))
def L_House___init___2 (G : G) (c : Calls) : SM := sExpr (xCall c 65 (aCons (xVar 3) (aNil)))
def L_House___init___3 (G : G) (c : Calls) : SM := sFld 32 (G.ok 7) 7 (xVar 0) (xVar 1)
def L_House___init___4 (G : G) (c : Calls) : SM := sFld 32 (G.ok 8) 8 (xVar 0) (xVar 2)
def L_House___init___5 (G : G) (c : Calls) : SM := sFld 32 (G.ok 19) 19 (xVar 0) (xLst (lList (xVar 3)))
def L_House___init___6 (G : G) (c : Calls) : SM := sFld 32 (G.ok 20) 20 (xVar 0) (xDNew false)
def L_House___init___7 (G : G) (c : Calls) : SM := sFld 32 (G.ok 21) 21 (xVar 0) (xDNew false)
def L_House___init___8 (G : G) (c : Calls) : SM := sFld 32 (G.ok 22) 22 (xVar 0) (xMake c 11 14 aNil)
def L_House___init___9 (G : G) (c : Calls) : SM := sFld 32 (G.ok 23) 23 (xVar 0) (xDNew true)
def L_House___init___10 (G : G) (c : Calls) : SM := sFld 32 (G.ok 24) 24 (xVar 0) (xDNew true)
def L_House___init___11 (G : G) (c : Calls) : SM := sFld 32 (G.ok 25) 25 (xVar 0) (xDNew false)
def L_House___init__ (G : G) (c : Calls) : SM := sSeq (L_House___init___1 G c) (sSeq (L_House___init___2 G c) (sSeq (L_House___init___3 G c) (sSeq (L_House___init___4 G c) (sSeq (L_House___init___5 G c) (sSeq (L_House___init___6 G c) (sSeq (L_House___init___7 G c) (sSeq (L_House___init___8 G c) (sSeq (L_House___init___9 G c) (sSeq (L_House___init___10 G c) (L_House___init___11 G c))))))))))
theorem L_House___init___eq (G : G) (c : Calls) : B_House___init__ G c = L_House___init__ G c := rfl
def L_House_took_1 (G : G) (c : Calls) : SM := sExpr (xCall c 32 (aCons (xVar 2) (aNil)))
def L_House_took_2 (G : G) (c : Calls) : SM := sSet 3 (xBin oIx (xVar 2) (xC (.int 0)))
def L_House_took_3 (G : G) (c : Calls) : SM := sIf (xDNotIn (xVar 1) (xFld 32 (G.ok 21) 21 (xVar 0))) (sRet (xIf (xBin oEq (xVar 3) (xC (.str [99, 111, 110, 110, 101, 99, 116]))) (xMeth c (G.mt 5) 32 (xVar 0) (aCons (xVar 1) (aCons (xVar 2) (aNil)))) (xLst (lLst (aCons (xTup (aCons (xVar 1) (aCons (xTup (aCons (xC (.str [99, 108, 111, 115, 101])) (aNil))) (aNil)))) (aNil)))))) (sSkip)
def L_House_took_4 (G : G) (c : Calls) : SM := sSet 4 (xDGet (xFld 32 (G.ok 20) 20 (xVar 0)) (xDGet (xFld 32 (G.ok 21) 21 (xVar 0)) (xVar 1)))
def L_House_took_5 (G : G) (c : Calls) : SM := sIf (xBin oIn (xVar 3) (xTup (aCons (xC (.str [115, 97, 121])) (aCons (xC (.str [102, 114, 101, 101])) (aNil))))) (sRet (xMeth c (G.mt 36) 32 (xVar 0) (aCons (xVar 1) (aCons (xVar 2) (aNil))))) (sSkip)
def L_House_took_6 (G : G) (c : Calls) : SM := sIf (xBin oIn (xVar 3) (xTup (aCons (xC (.str [103, 111, 116])) (aCons (xC (.str [104, 101, 108, 100])) (aCons (xC (.str [100, 111, 110, 101])) (aNil)))))) (sRet (xLst (lComp (iVal (xMeth c (G.mt 38) 32 (xFld 32 (G.ok 14) 14 (xVar 4)) (aCons (xVar 2) (aNil)))) (.name 6) none (xTup (aCons (xVar 1) (aCons (xVar 6) (aNil)))) [6]))) (sSkip)
def L_House_took_7 (G : G) (c : Calls) : SM := sIf (xBin oEq (xVar 3) (xC (.str [104, 101, 97, 114]))) (sRet (xMeth c (G.mt 42) 32 (xVar 0) (aCons (xVar 1) (aCons (xVar 2) (aNil))))) (sSkip)
def L_House_took_8t_1b_1 (G : G) (c : Calls) : SM := sExpr (xMeth c (G.mt 40) 32 (xVar 0) (aCons (xDGet (xFld 32 (G.ok 21) 21 (xVar 0)) (xVar 1)) (aCons (xVar 5) (aNil))))
def L_House_took_8t_1b (G : G) (c : Calls) : SM := L_House_took_8t_1b_1 G c
def L_House_took_8t_1 (G : G) (c : Calls) : SM := sFor (iVal (xBin oIx (xVar 2) (xC (.int 2)))) (.name 5) (L_House_took_8t_1b G c)
def L_House_took_8t_2 (G : G) (c : Calls) : SM := sRet (xLst (lLst (aCons (xTup (aCons (xVar 1) (aCons (xTup (aCons (xC (.str [100, 114, 111, 112, 112, 101, 100])) (aCons (xBin oIx (xVar 2) (xC (.int 1))) (aNil)))) (aNil)))) (aNil))))
def L_House_took_8t (G : G) (c : Calls) : SM := sSeq (L_House_took_8t_1 G c) (L_House_took_8t_2 G c)
def L_House_took_8 (G : G) (c : Calls) : SM := sIf (xBin oEq (xVar 3) (xC (.str [100, 114, 111, 112]))) (L_House_took_8t G c) (sSkip)
def L_House_took_9 (G : G) (c : Calls) : SM := sIf (xBin oEq (xVar 3) (xC (.str [112, 105, 110, 103]))) (sRet (xLst (lLst (aCons (xTup (aCons (xVar 1) (aCons (xTup (aCons (xC (.str [112, 111, 110, 103])) (aNil))) (aNil)))) (aNil))))) (sSkip)
def L_House_took_10t_1 (G : G) (c : Calls) : SM := sFld 32 (G.ok 18) 18 (xVar 4) (xC .non)
def L_House_took_10t_2 (G : G) (c : Calls) : SM := sRet (xMeth c (G.mt 23) 32 (xVar 0) (aCons (xVar 1) (aNil)))
def L_House_took_10t (G : G) (c : Calls) : SM := sSeq (L_House_took_10t_1 G c) (L_House_took_10t_2 G c)
def L_House_took_10 (G : G) (c : Calls) : SM := sIf (xBin oEq (xVar 3) (xC (.str [108, 101, 97, 118, 101]))) (L_House_took_10t G c) (sSkip)
def L_House_took_11 (G : G) (c : Calls) : SM := sRet (xMeth c (G.mt 3) 32 (xVar 0) (aCons (xVar 1) (aNil)))
def L_House_took (G : G) (c : Calls) : SM := sSeq (L_House_took_1 G c) (sSeq (L_House_took_2 G c) (sSeq (L_House_took_3 G c) (sSeq (L_House_took_4 G c) (sSeq (L_House_took_5 G c) (sSeq (L_House_took_6 G c) (sSeq (L_House_took_7 G c) (sSeq (L_House_took_8 G c) (sSeq (L_House_took_9 G c) (sSeq (L_House_took_10 G c) (L_House_took_11 G c))))))))))
theorem L_House_took_eq (G : G) (c : Calls) : B_House_took G c = L_House_took G c := rfl
def L_House_connect_1 (G : G) (c : Calls) : SM := sTgt (.tup [6, 7, 8, 9]) (xVar 2)
def L_House_connect_2 (G : G) (c : Calls) : SM := sSet 3 (xLst (lLst (aNil)))
def L_House_connect_3 (G : G) (c : Calls) : SM := sIf (xAnd (xDIn (xVar 7) (xFld 32 (G.ok 20) 20 (xVar 0))) (xBin oIsNot (xFld 32 (G.ok 16) 16 (xDGet (xFld 32 (G.ok 20) 20 (xVar 0)) (xVar 7))) (xC .non))) (sSet 3 (xMeth c (G.mt 3) 32 (xVar 0) (aCons (xFld 32 (G.ok 16) 16 (xDGet (xFld 32 (G.ok 20) 20 (xVar 0)) (xVar 7))) (aNil)))) (sSkip)
def L_House_connect_4 (G : G) (c : Calls) : SM := sSet 4 (xAnd (xDIn (xVar 7) (xFld 32 (G.ok 20) 20 (xVar 0))) (xNot (xVar 8)))
def L_House_connect_5t_1 (G : G) (c : Calls) : SM := sExpr (xMeth c (G.mt 9) 32 (xVar 0) (aCons (xVar 7) (aNil)))
def L_House_connect_5t_2 (G : G) (c : Calls) : SM := sDPut (xFld 32 (G.ok 20) 20 (xVar 0)) (xVar 7) (xMake c 17 75 (aCons (xFld 32 (G.ok 7) 7 (xVar 0)) (aCons (xFld 32 (G.ok 8) 8 (xVar 0)) (aNil))))
def L_House_connect_5t (G : G) (c : Calls) : SM := sSeq (L_House_connect_5t_1 G c) (L_House_connect_5t_2 G c)
def L_House_connect_5 (G : G) (c : Calls) : SM := sIf (xNot (xVar 4)) (L_House_connect_5t G c) (sSkip)
def L_House_connect_6 (G : G) (c : Calls) : SM := sSet 5 (xDGet (xFld 32 (G.ok 20) 20 (xVar 0)) (xVar 7))
def L_House_connect_7 (G : G) (c : Calls) : SM := sFld 32 (G.ok 16) 16 (xVar 5) (xVar 1)
def L_House_connect_8 (G : G) (c : Calls) : SM := sFld 32 (G.ok 17) 17 (xVar 5) (xVar 8)
def L_House_connect_9 (G : G) (c : Calls) : SM := sFld 32 (G.ok 18) 18 (xVar 5) (xVar 9)
def L_House_connect_10 (G : G) (c : Calls) : SM := sDPut (xFld 32 (G.ok 21) 21 (xVar 0)) (xVar 1) (xVar 7)
def L_House_connect_11 (G : G) (c : Calls) : SM := sRet (xLst (lCat (xLst (lCat (xVar 3) (xLst (lLst (aCons (xTup (aCons (xVar 1) (aCons (xTup (aCons (xC (.str [103, 114, 101, 101, 116, 101, 100])) (aCons (xVar 4) (aNil)))) (aNil)))) (aNil)))))) (xLst (lComp (iVal (xMeth c (G.mt 0) 32 (xFld 32 (G.ok 14) 14 (xVar 5)) aNil)) (.name 10) none (xTup (aCons (xVar 1) (aCons (xVar 10) (aNil)))) [10]))))
def L_House_connect (G : G) (c : Calls) : SM := sSeq (L_House_connect_1 G c) (sSeq (L_House_connect_2 G c) (sSeq (L_House_connect_3 G c) (sSeq (L_House_connect_4 G c) (sSeq (L_House_connect_5 G c) (sSeq (L_House_connect_6 G c) (sSeq (L_House_connect_7 G c) (sSeq (L_House_connect_8 G c) (sSeq (L_House_connect_9 G c) (sSeq (L_House_connect_10 G c) (L_House_connect_11 G c))))))))))
theorem L_House_connect_eq (G : G) (c : Calls) : B_House_connect G c = L_House_connect G c := rfl
def L_House_lost_1 (G : G) (c : Calls) : SM := sIf (xDNotIn (xVar 1) (xFld 32 (G.ok 21) 21 (xVar 0))) (sRaise 4) (sSkip)
def L_House_lost_2 (G : G) (c : Calls) : SM := sSet 2 (xDPop1 (xFld 32 (G.ok 21) 21 (xVar 0)) (xVar 1))
def L_House_lost_3 (G : G) (c : Calls) : SM := sSet 3 (xDGet (xFld 32 (G.ok 20) 20 (xVar 0)) (xVar 2))
def L_House_lost_4 (G : G) (c : Calls) : SM := sFld 32 (G.ok 16) 16 (xVar 3) (xC .non)
def L_House_lost_5 (G : G) (c : Calls) : SM := sSet 4 (xFld 32 (G.ok 18) 18 (xVar 3))
def L_House_lost_6 (G : G) (c : Calls) : SM := sFld 32 (G.ok 18) 18 (xVar 3) (xC .non)
def L_House_lost_7 (G : G) (c : Calls) : SM := sIf (xFld 32 (G.ok 17) 17 (xVar 3)) (sExpr (xMeth c (G.mt 9) 32 (xVar 0) (aCons (xVar 2) (aNil)))) (sSkip)
def L_House_lost_8 (G : G) (c : Calls) : SM := sRet (xIf (xBin oIs (xVar 4) (xC .non)) (xLst (lLst (aNil))) (xMeth c (G.mt 29) 32 (xVar 0) (aCons (xVar 2) (aCons (xVar 4) (aNil)))))
def L_House_lost (G : G) (c : Calls) : SM := sSeq (L_House_lost_1 G c) (sSeq (L_House_lost_2 G c) (sSeq (L_House_lost_3 G c) (sSeq (L_House_lost_4 G c) (sSeq (L_House_lost_5 G c) (sSeq (L_House_lost_6 G c) (sSeq (L_House_lost_7 G c) (L_House_lost_8 G c)))))))
theorem L_House_lost_eq (G : G) (c : Calls) : B_House_lost G c = L_House_lost G c := rfl
def L_House_forget_1 (G : G) (c : Calls) : SM := sExpr (xMeth c (G.mt 22) 32 (xFld 32 (G.ok 22) 22 (xVar 0)) (aCons (xVar 1) (aNil)))
def L_House_forget_2b_1 (G : G) (c : Calls) : SM := sExpr (xDPop2 (xDGet (xFld 32 (G.ok 23) 23 (xVar 0)) (xVar 2)) (xVar 1) (xC .non))
def L_House_forget_2b (G : G) (c : Calls) : SM := L_House_forget_2b_1 G c
def L_House_forget_2 (G : G) (c : Calls) : SM := sFor (iVal (xLst (lListK (xFld 32 (G.ok 23) 23 (xVar 0))))) (.name 2) (L_House_forget_2b G c)
def L_House_forget_3 (G : G) (c : Calls) : SM := sIf (xDIn (xVar 1) (xFld 32 (G.ok 20) 20 (xVar 0))) (sExpr (xDPop1 (xFld 32 (G.ok 20) 20 (xVar 0)) (xVar 1))) (sSkip)
def L_House_forget (G : G) (c : Calls) : SM := sSeq (L_House_forget_1 G c) (sSeq (L_House_forget_2 G c) (L_House_forget_3 G c))
theorem L_House_forget_eq (G : G) (c : Calls) : B_House_forget G c = L_House_forget G c := rfl
def L_House_taken_1 (G : G) (c : Calls) : SM := sSet 3 (xDGet (xFld 32 (G.ok 21) 21 (xVar 0)) (xVar 1))
def L_House_taken_2 (G : G) (c : Calls) : SM := sTgt (.tup [6, 7]) (xMeth c (G.mt 38) 32 (xFld 32 (G.ok 15) 15 (xDGet (xFld 32 (G.ok 20) 20 (xVar 0)) (xVar 3))) (aCons (xVar 2) (aNil)))
def L_House_taken_3 (G : G) (c : Calls) : SM := sSet 4 (xMut (lComp (iVal (xVar 6)) (.name 8) none (xTup (aCons (xVar 1) (aCons (xVar 8) (aNil)))) [8]))
def L_House_taken_4b_1 (G : G) (c : Calls) : SM := sExpr (xExt (xVar 4) (xMeth c (G.mt 29) 32 (xVar 0) (aCons (xVar 3) (aCons (xVar 5) (aNil)))))
def L_House_taken_4b (G : G) (c : Calls) : SM := L_House_taken_4b_1 G c
def L_House_taken_4 (G : G) (c : Calls) : SM := sFor (iVal (xVar 7)) (.name 5) (L_House_taken_4b G c)
def L_House_taken_5 (G : G) (c : Calls) : SM := sRet (xFrz (xVar 4))
def L_House_taken (G : G) (c : Calls) : SM := sSeq (L_House_taken_1 G c) (sSeq (L_House_taken_2 G c) (sSeq (L_House_taken_3 G c) (sSeq (L_House_taken_4 G c) (L_House_taken_5 G c))))
theorem L_House_taken_eq (G : G) (c : Calls) : B_House_taken G c = L_House_taken G c := rfl
def L_House_publish_1 (G : G) (c : Calls) : SM := sTgt (.tup [5, 6, 7, 8]) (xVar 2)
def L_House_publish_2 (G : G) (c : Calls) : SM := sIf (xNot (xCall c 67 (aCons (xFld 32 (G.ok 19) 19 (xVar 0)) (aCons (xVar 1) (aCons (xVar 5) (aNil)))))) (sRet (xLst (lLst (aNil)))) (sSkip)
def L_House_publish_3e_1 (G : G) (c : Calls) : SM := sIf (xVar 8) (sDPut (xFld 32 (G.ok 25) 25 (xVar 0)) (xVar 5) (xTup (aCons (xVar 6) (aCons (xVar 7) (aNil))))) (sSkip)
def L_House_publish_3e (G : G) (c : Calls) : SM := L_House_publish_3e_1 G c
def L_House_publish_3 (G : G) (c : Calls) : SM := sIf (xAnd (xVar 8) (xBin oEq (xVar 6) (xC (.str [])))) (sExpr (xDPop2 (xFld 32 (G.ok 25) 25 (xVar 0)) (xVar 5) (xC .non))) (L_House_publish_3e G c)
def L_House_publish_4 (G : G) (c : Calls) : SM := sSet 3 (xMut (lLst (aNil)))
def L_House_publish_5b_1 (G : G) (c : Calls) : SM := sExpr (xExt (xVar 3) (xMeth c (G.mt 13) 32 (xVar 0) (aCons (xVar 9) (aCons (xVar 5) (aCons (xVar 6) (aCons (xB bMin2 (aCons (xVar 7) (aCons (xVar 10) (aNil)))) (aNil)))))))
def L_House_publish_5b (G : G) (c : Calls) : SM := L_House_publish_5b_1 G c
def L_House_publish_5 (G : G) (c : Calls) : SM := sFor (iVal (xMeth c (G.mt 16) 32 (xFld 32 (G.ok 22) 22 (xVar 0)) (aCons (xVar 5) (aNil)))) (.tup [9, 10]) (L_House_publish_5b G c)
def L_House_publish_6b_1t_1 (G : G) (c : Calls) : SM := sSet 9 (xMeth c (G.mt 25) 32 (xVar 0) (aCons (xVar 4) (aNil)))
def L_House_publish_6b_1t_2 (G : G) (c : Calls) : SM := sDPut (xFld 32 (G.ok 24) 24 (xVar 0)) (xVar 4) (xVar 9)
def L_House_publish_6b_1t_3 (G : G) (c : Calls) : SM := sExpr (xExt (xVar 3) (xMeth c (G.mt 13) 32 (xVar 0) (aCons (xVar 9) (aCons (xVar 5) (aCons (xVar 6) (aCons (xB bMin2 (aCons (xVar 7) (aCons (xDGet (xDGet (xFld 32 (G.ok 23) 23 (xVar 0)) (xVar 4)) (xVar 9)) (aNil)))) (aNil)))))))
def L_House_publish_6b_1t (G : G) (c : Calls) : SM := sSeq (L_House_publish_6b_1t_1 G c) (sSeq (L_House_publish_6b_1t_2 G c) (L_House_publish_6b_1t_3 G c))
def L_House_publish_6b_1 (G : G) (c : Calls) : SM := sIf (xAnd (xDGet (xFld 32 (G.ok 23) 23 (xVar 0)) (xVar 4)) (xCall c 7 (aCons (xBin oIx (xVar 4) (xC (.int 1))) (aCons (xVar 5) (aNil))))) (L_House_publish_6b_1t G c) (sSkip)
def L_House_publish_6b (G : G) (c : Calls) : SM := L_House_publish_6b_1 G c
def L_House_publish_6 (G : G) (c : Calls) : SM := sFor (iVal (xLst (lSortK (xFld 32 (G.ok 23) 23 (xVar 0))))) (.name 4) (L_House_publish_6b G c)
def L_House_publish_7 (G : G) (c : Calls) : SM := sRet (xFrz (xVar 3))
def L_House_publish (G : G) (c : Calls) : SM := sSeq (L_House_publish_1 G c) (sSeq (L_House_publish_2 G c) (sSeq (L_House_publish_3 G c) (sSeq (L_House_publish_4 G c) (sSeq (L_House_publish_5 G c) (sSeq (L_House_publish_6 G c) (L_House_publish_7 G c))))))
theorem L_House_publish_eq (G : G) (c : Calls) : B_House_publish G c = L_House_publish G c := rfl
def L_House_hand_1 (G : G) (c : Calls) : SM := sSet 5 (xDGet (xFld 32 (G.ok 20) 20 (xVar 0)) (xVar 1))
def L_House_hand_2t_1 (G : G) (c : Calls) : SM := sExpr (xMeth c (G.mt 20) 32 (xFld 32 (G.ok 14) 14 (xVar 5)) (aCons (xVar 2) (aCons (xVar 3) (aCons (xVar 4) (aCons (xC (.bl false)) (aNil))))))
def L_House_hand_2t_2 (G : G) (c : Calls) : SM := sRet (xLst (lLst (aNil)))
def L_House_hand_2t (G : G) (c : Calls) : SM := sSeq (L_House_hand_2t_1 G c) (L_House_hand_2t_2 G c)
def L_House_hand_2 (G : G) (c : Calls) : SM := sIf (xBin oIs (xFld 32 (G.ok 16) 16 (xVar 5)) (xC .non)) (L_House_hand_2t G c) (sSkip)
def L_House_hand_3 (G : G) (c : Calls) : SM := sRet (xLst (lComp (iVal (xMeth c (G.mt 32) 32 (xFld 32 (G.ok 14) 14 (xVar 5)) (aCons (xVar 2) (aCons (xVar 3) (aCons (xVar 4) (aCons (xC (.bl false)) (aNil))))))) (.name 6) none (xTup (aCons (xFld 32 (G.ok 16) 16 (xVar 5)) (aCons (xVar 6) (aNil)))) [6]))
def L_House_hand (G : G) (c : Calls) : SM := sSeq (L_House_hand_1 G c) (sSeq (L_House_hand_2 G c) (L_House_hand_3 G c))
theorem L_House_hand_eq (G : G) (c : Calls) : B_House_hand G c = L_House_hand G c := rfl
def L_House_next_of_1 (G : G) (c : Calls) : SM := sSet 2 (xLst (lSortK (xDGet (xFld 32 (G.ok 23) 23 (xVar 0)) (xVar 1))))
def L_House_next_of_2 (G : G) (c : Calls) : SM := sSet 3 (xOr (xLst (lComp (iVal (xVar 2)) (.name 5) (some (xBin oIsNot (xFld 32 (G.ok 16) 16 (xDGet (xFld 32 (G.ok 20) 20 (xVar 0)) (xVar 5))) (xC .non))) (xVar 5) [5])) (xVar 2))
def L_House_next_of_3 (G : G) (c : Calls) : SM := sSet 4 (xLst (lComp (iVal (xVar 3)) (.name 5) (some (xBin oGt (xVar 5) (xDGet2 (xFld 32 (G.ok 24) 24 (xVar 0)) (xVar 1) (xC (.str []))))) (xVar 5) [5]))
def L_House_next_of_4 (G : G) (c : Calls) : SM := sRet (xIf (xVar 4) (xBin oIx (xVar 4) (xC (.int 0))) (xBin oIx (xVar 3) (xC (.int 0))))
def L_House_next_of (G : G) (c : Calls) : SM := sSeq (L_House_next_of_1 G c) (sSeq (L_House_next_of_2 G c) (sSeq (L_House_next_of_3 G c) (L_House_next_of_4 G c)))
theorem L_House_next_of_eq (G : G) (c : Calls) : B_House_next_of G c = L_House_next_of G c := rfl
def L_House_is_granted_1 (G : G) (c : Calls) : SM := sSet 3 (xCall c 76 (aCons (xVar 2) (aNil)))
def L_House_is_granted_2 (G : G) (c : Calls) : SM := sIf (xNot (xCall c 77 (aCons (xVar 2) (aNil)))) (sRet (xBin oIs (xCall c 74 (aCons (xFld 32 (G.ok 19) 19 (xVar 0)) (aCons (xVar 1) (aCons (xVar 2) (aNil))))) (xC .non))) (sSkip)
def L_House_is_granted_3 (G : G) (c : Calls) : SM := sIf (xBin oIs (xVar 3) (xC .non)) (sRet (xC (.bl false))) (sSkip)
def L_House_is_granted_4b_1 (G : G) (c : Calls) : SM := sExpr (xCall c 3 (aCons (xBin oIx (xVar 3) (xC (.int 0))) (aNil)))
def L_House_is_granted_4b_2 (G : G) (c : Calls) : SM := sExpr (xCall c 2 (aCons (xBin oIx (xVar 3) (xC (.int 1))) (aNil)))
def L_House_is_granted_4b (G : G) (c : Calls) : SM := sSeq (L_House_is_granted_4b_1 G c) (L_House_is_granted_4b_2 G c)
def L_House_is_granted_4 (G : G) (c : Calls) : SM := sTry (L_House_is_granted_4b G c) (G.tk 1) (hdNo (sRet (xC (.bl false))))
def L_House_is_granted_5 (G : G) (c : Calls) : SM := sRet (xBin oIs (xCall c 74 (aCons (xFld 32 (G.ok 19) 19 (xVar 0)) (aCons (xVar 1) (aCons (xBin oIx (xVar 3) (xC (.int 1))) (aNil))))) (xC .non))
def L_House_is_granted (G : G) (c : Calls) : SM := sSeq (L_House_is_granted_1 G c) (sSeq (L_House_is_granted_2 G c) (sSeq (L_House_is_granted_3 G c) (sSeq (L_House_is_granted_4 G c) (L_House_is_granted_5 G c))))
theorem L_House_is_granted_eq (G : G) (c : Calls) : B_House_is_granted G c = L_House_is_granted G c := rfl
def L_House_wished_1 (G : G) (c : Calls) : SM := sSet 3 (xDGet (xFld 32 (G.ok 21) 21 (xVar 0)) (xVar 1))
def L_House_wished_2 (G : G) (c : Calls) : SM := sSet 4 (xMut (lLst (aNil)))
def L_House_wished_3 (G : G) (c : Calls) : SM := sSet 5 (xMut (lLst (aNil)))
def L_House_wished_4b_1e_1t_1 (G : G) (c : Calls) : SM := sExpr (xApp (xVar 4) (xVar 7))
def L_House_wished_4b_1e_1t_2 (G : G) (c : Calls) : SM := sIf (xDNotIn (xCall c 76 (aCons (xVar 6) (aNil))) (xFld 32 (G.ok 23) 23 (xVar 0))) (sDPut (xFld 32 (G.ok 23) 23 (xVar 0)) (xCall c 76 (aCons (xVar 6) (aNil))) (xDNew false)) (sSkip)
def L_House_wished_4b_1e_1t_3 (G : G) (c : Calls) : SM := sDPut (xDGet (xFld 32 (G.ok 23) 23 (xVar 0)) (xCall c 76 (aCons (xVar 6) (aNil)))) (xVar 3) (xVar 7)
def L_House_wished_4b_1e_1t (G : G) (c : Calls) : SM := sSeq (L_House_wished_4b_1e_1t_1 G c) (sSeq (L_House_wished_4b_1e_1t_2 G c) (L_House_wished_4b_1e_1t_3 G c))
def L_House_wished_4b_1e_1e_1 (G : G) (c : Calls) : SM := sExpr (xApp (xVar 4) (xVar 7))
def L_House_wished_4b_1e_1e_2 (G : G) (c : Calls) : SM := sExpr (xMeth c (G.mt 31) 32 (xFld 32 (G.ok 22) 22 (xVar 0)) (aCons (xVar 3) (aCons (xVar 6) (aCons (xVar 7) (aNil)))))
def L_House_wished_4b_1e_1e_3 (G : G) (c : Calls) : SM := sExpr (xExt (xVar 5) (xMeth c (G.mt 33) 32 (xVar 0) (aCons (xVar 3) (aCons (xVar 6) (aCons (xVar 7) (aNil))))))
def L_House_wished_4b_1e_1e (G : G) (c : Calls) : SM := sSeq (L_House_wished_4b_1e_1e_1 G c) (sSeq (L_House_wished_4b_1e_1e_2 G c) (L_House_wished_4b_1e_1e_3 G c))
def L_House_wished_4b_1e_1 (G : G) (c : Calls) : SM := sIf (xCall c 77 (aCons (xVar 6) (aNil))) (L_House_wished_4b_1e_1t G c) (L_House_wished_4b_1e_1e G c)
def L_House_wished_4b_1e (G : G) (c : Calls) : SM := L_House_wished_4b_1e_1 G c
def L_House_wished_4b_1 (G : G) (c : Calls) : SM := sIf (xNot (xMeth c (G.mt 19) 32 (xVar 0) (aCons (xVar 3) (aCons (xVar 6) (aNil))))) (sExpr (xApp (xVar 4) (xC (.int 128)))) (L_House_wished_4b_1e G c)
def L_House_wished_4b (G : G) (c : Calls) : SM := L_House_wished_4b_1 G c
def L_House_wished_4 (G : G) (c : Calls) : SM := sFor (iVal (xBin oIx (xVar 2) (xC (.int 2)))) (.tup [6, 7]) (L_House_wished_4b G c)
def L_House_wished_5 (G : G) (c : Calls) : SM := sRet (xLst (lCat (xLst (lLst (aCons (xTup (aCons (xVar 1) (aCons (xTup (aCons (xC (.str [104, 101, 97, 114, 100])) (aCons (xBin oIx (xVar 2) (xC (.int 1))) (aCons (xTuple (xVar 4)) (aNil))))) (aNil)))) (aNil)))) (xLst (lComp (iVal (xVar 5)) (.name 8) none (xTup (aCons (xVar 1) (aCons (xVar 8) (aNil)))) [8]))))
def L_House_wished (G : G) (c : Calls) : SM := sSeq (L_House_wished_1 G c) (sSeq (L_House_wished_2 G c) (sSeq (L_House_wished_3 G c) (sSeq (L_House_wished_4 G c) (L_House_wished_5 G c))))
theorem L_House_wished_eq (G : G) (c : Calls) : B_House_wished G c = L_House_wished G c := rfl
def L_House_shelf_for_1 (G : G) (c : Calls) : SM := sSet 4 (xMut (lLst (aNil)))
def L_House_shelf_for_2b_1 (G : G) (c : Calls) : SM := sIf (xCall c 7 (aCons (xVar 2) (aCons (xVar 5) (aNil)))) (sExpr (xExt (xVar 4) (xMeth c (G.mt 32) 32 (xFld 32 (G.ok 14) 14 (xDGet (xFld 32 (G.ok 20) 20 (xVar 0)) (xVar 1))) (aCons (xVar 5) (aCons (xVar 6) (aCons (xB bMin2 (aCons (xVar 3) (aCons (xVar 7) (aNil)))) (aCons (xC (.bl true)) (aNil)))))))) (sSkip)
def L_House_shelf_for_2b (G : G) (c : Calls) : SM := L_House_shelf_for_2b_1 G c
def L_House_shelf_for_2 (G : G) (c : Calls) : SM := sFor (iVal (xMeth c (G.mt 21) 32 (xVar 0) aNil)) (.tup [5, 6, 7]) (L_House_shelf_for_2b G c)
def L_House_shelf_for_3 (G : G) (c : Calls) : SM := sRet (xFrz (xVar 4))
def L_House_shelf_for (G : G) (c : Calls) : SM := sSeq (L_House_shelf_for_1 G c) (sSeq (L_House_shelf_for_2 G c) (L_House_shelf_for_3 G c))
theorem L_House_shelf_for_eq (G : G) (c : Calls) : B_House_shelf_for G c = L_House_shelf_for G c := rfl
def L_House_unwish_1t_1 (G : G) (c : Calls) : SM := sIf (xDIn (xCall c 76 (aCons (xVar 2) (aNil))) (xFld 32 (G.ok 23) 23 (xVar 0))) (sExpr (xDPop2 (xDGet (xFld 32 (G.ok 23) 23 (xVar 0)) (xCall c 76 (aCons (xVar 2) (aNil)))) (xVar 1) (xC .non))) (sSkip)
def L_House_unwish_1t (G : G) (c : Calls) : SM := L_House_unwish_1t_1 G c
def L_House_unwish_1 (G : G) (c : Calls) : SM := sIf (xCall c 77 (aCons (xVar 2) (aNil))) (L_House_unwish_1t G c) (sExpr (xMeth c (G.mt 7) 32 (xFld 32 (G.ok 22) 22 (xVar 0)) (aCons (xVar 1) (aCons (xVar 2) (aNil)))))
def L_House_unwish (G : G) (c : Calls) : SM := L_House_unwish_1 G c
theorem L_House_unwish_eq (G : G) (c : Calls) : B_House_unwish G c = L_House_unwish G c := rfl
def L_House_wishes_1 (G : G) (c : Calls) : SM := sSet 2 (xMeth c (G.mt 43) 32 (xFld 32 (G.ok 22) 22 (xVar 0)) (aCons (xVar 1) (aNil)))
def L_House_wishes_2b_1 (G : G) (c : Calls) : SM := sIf (xDIn (xVar 1) (xDGet (xFld 32 (G.ok 23) 23 (xVar 0)) (xVar 3))) (sExpr (xApp (xVar 2) (xTup (aCons (xBin oAdd (xBin oAdd (xBin oAdd (xBin oAdd (xC (.str [36, 115, 104, 97, 114, 101])) (xC (.str [47]))) (xBin oIx (xVar 3) (xC (.int 0)))) (xC (.str [47]))) (xBin oIx (xVar 3) (xC (.int 1)))) (aCons (xDGet (xDGet (xFld 32 (G.ok 23) 23 (xVar 0)) (xVar 3)) (xVar 1)) (aNil)))))) (sSkip)
def L_House_wishes_2b (G : G) (c : Calls) : SM := L_House_wishes_2b_1 G c
def L_House_wishes_2 (G : G) (c : Calls) : SM := sForK (xFld 32 (G.ok 23) 23 (xVar 0)) (.name 3) (L_House_wishes_2b G c)
def L_House_wishes_3 (G : G) (c : Calls) : SM := sRet (xLst (lSort (xVar 2)))
def L_House_wishes (G : G) (c : Calls) : SM := sSeq (L_House_wishes_1 G c) (sSeq (L_House_wishes_2 G c) (L_House_wishes_3 G c))
theorem L_House_wishes_eq (G : G) (c : Calls) : B_House_wishes G c = L_House_wishes G c := rfl
def L_Hearer___init___1 (G : G) (c : Calls) : SM := sExpr (xCall c 3 (aCons (xVar 1) (aNil)))
def L_Hearer___init___2 (G : G) (c : Calls) : SM := sExpr (xCall c 53 (aCons (xVar 2) (aCons (xVar 3) (aNil))))
def L_Hearer___init___3 (G : G) (c : Calls) : SM := sFld 32 (G.ok 26) 26 (xVar 0) (xVar 1)
def L_Hearer___init___4 (G : G) (c : Calls) : SM := sFld 32 (G.ok 7) 7 (xVar 0) (xVar 2)
def L_Hearer___init___5 (G : G) (c : Calls) : SM := sFld 32 (G.ok 8) 8 (xVar 0) (xVar 3)
def L_Hearer___init___6 (G : G) (c : Calls) : SM := sFld 32 (G.ok 14) 14 (xVar 0) (xMake c 14 54 (aCons (xVar 2) (aCons (xVar 3) (aNil))))
def L_Hearer___init___7 (G : G) (c : Calls) : SM := sFld 32 (G.ok 15) 15 (xVar 0) (xMake c 15 63 aNil)
def L_Hearer___init___8 (G : G) (c : Calls) : SM := sFld 32 (G.ok 27) 27 (xVar 0) (xC (.bl false))
def L_Hearer___init___9 (G : G) (c : Calls) : SM := sFld 32 (G.ok 28) 28 (xVar 0) (xC (.int 0))
def L_Hearer___init___10 (G : G) (c : Calls) : SM := sFld 32 (G.ok 4) 4 (xVar 0) (xMut (lLst (aNil)))
def L_Hearer___init___11 (G : G) (c : Calls) : SM := sFld 32 (G.ok 29) 29 (xVar 0) (xMut (lLst (aNil)))
def L_Hearer___init__ (G : G) (c : Calls) : SM := sSeq (L_Hearer___init___1 G c) (sSeq (L_Hearer___init___2 G c) (sSeq (L_Hearer___init___3 G c) (sSeq (L_Hearer___init___4 G c) (sSeq (L_Hearer___init___5 G c) (sSeq (L_Hearer___init___6 G c) (sSeq (L_Hearer___init___7 G c) (sSeq (L_Hearer___init___8 G c) (sSeq (L_Hearer___init___9 G c) (sSeq (L_Hearer___init___10 G c) (L_Hearer___init___11 G c))))))))))
theorem L_Hearer___init___eq (G : G) (c : Calls) : B_Hearer___init__ G c = L_Hearer___init__ G c := rfl
def L_Hearer_connect_1 (G : G) (c : Calls) : SM := sSet 3 (xTup (aCons (xC (.str [99, 111, 110, 110, 101, 99, 116])) (aCons (xFld 32 (G.ok 26) 26 (xVar 0)) (aCons (xVar 1) (aCons (xVar 2) (aNil))))))
def L_Hearer_connect_2 (G : G) (c : Calls) : SM := sExpr (xCall c 32 (aCons (xVar 3) (aNil)))
def L_Hearer_connect_3 (G : G) (c : Calls) : SM := sFld 32 (G.ok 27) 27 (xVar 0) (xC (.bl false))
def L_Hearer_connect_4t_1 (G : G) (c : Calls) : SM := sFld 32 (G.ok 14) 14 (xVar 0) (xMake c 14 54 (aCons (xFld 32 (G.ok 7) 7 (xVar 0)) (aCons (xFld 32 (G.ok 8) 8 (xVar 0)) (aNil))))
def L_Hearer_connect_4t_2 (G : G) (c : Calls) : SM := sFld 32 (G.ok 15) 15 (xVar 0) (xMake c 15 63 aNil)
def L_Hearer_connect_4t (G : G) (c : Calls) : SM := sSeq (L_Hearer_connect_4t_1 G c) (L_Hearer_connect_4t_2 G c)
def L_Hearer_connect_4 (G : G) (c : Calls) : SM := sIf (xVar 1) (L_Hearer_connect_4t G c) (sSkip)
def L_Hearer_connect_5 (G : G) (c : Calls) : SM := sRet (xLst (lLst (aCons (xVar 3) (aNil))))
def L_Hearer_connect (G : G) (c : Calls) : SM := sSeq (L_Hearer_connect_1 G c) (sSeq (L_Hearer_connect_2 G c) (sSeq (L_Hearer_connect_3 G c) (sSeq (L_Hearer_connect_4 G c) (L_Hearer_connect_5 G c))))
theorem L_Hearer_connect_eq (G : G) (c : Calls) : B_Hearer_connect G c = L_Hearer_connect G c := rfl
def L_Hearer_leave_1 (G : G) (c : Calls) : SM := sSet 1 (xIf (xFld 32 (G.ok 27) 27 (xVar 0)) (xLst (lLst (aCons (xTup (aCons (xC (.str [108, 101, 97, 118, 101])) (aNil))) (aNil)))) (xLst (lLst (aNil))))
def L_Hearer_leave_2 (G : G) (c : Calls) : SM := sFld 32 (G.ok 27) 27 (xVar 0) (xC (.bl false))
def L_Hearer_leave_3 (G : G) (c : Calls) : SM := sRet (xVar 1)
def L_Hearer_leave (G : G) (c : Calls) : SM := sSeq (L_Hearer_leave_1 G c) (sSeq (L_Hearer_leave_2 G c) (L_Hearer_leave_3 G c))
theorem L_Hearer_leave_eq (G : G) (c : Calls) : B_Hearer_leave G c = L_Hearer_leave G c := rfl
def L_Hearer_say_1 (G : G) (c : Calls) : SM := sIf (xFld 32 (G.ok 27) 27 (xVar 0)) (sRet (xMeth c (G.mt 32) 32 (xFld 32 (G.ok 14) 14 (xVar 0)) (aCons (xVar 1) (aCons (xVar 2) (aCons (xVar 3) (aCons (xVar 4) (aNil))))))) (sSkip)
def L_Hearer_say_2 (G : G) (c : Calls) : SM := sExpr (xMeth c (G.mt 20) 32 (xFld 32 (G.ok 14) 14 (xVar 0)) (aCons (xVar 1) (aCons (xVar 2) (aCons (xVar 3) (aCons (xVar 4) (aNil))))))
def L_Hearer_say_3 (G : G) (c : Calls) : SM := sRet (xLst (lLst (aNil)))
def L_Hearer_say (G : G) (c : Calls) : SM := sSeq (L_Hearer_say_1 G c) (sSeq (L_Hearer_say_2 G c) (L_Hearer_say_3 G c))
theorem L_Hearer_say_eq (G : G) (c : Calls) : B_Hearer_say G c = L_Hearer_say G c := rfl
def L_Hearer_ask_1 (G : G) (c : Calls) : SM := sSet 3 (xTup (aCons (xVar 1) (aCons (xBin oAdd (xC (.int 1)) (xFld 32 (G.ok 28) 28 (xVar 0))) (aCons (xTuple (xVar 2)) (aNil)))))
def L_Hearer_ask_2 (G : G) (c : Calls) : SM := sExpr (xCall c 32 (aCons (xVar 3) (aNil)))
def L_Hearer_ask_3 (G : G) (c : Calls) : SM := sIf (xNot (xFld 32 (G.ok 27) 27 (xVar 0))) (sRet (xLst (lLst (aNil)))) (sSkip)
def L_Hearer_ask_4 (G : G) (c : Calls) : SM := sFld 32 (G.ok 28) 28 (xVar 0) (xIf (xBin oLt (xBin oIx (xVar 3) (xC (.int 1))) (xFld 32 (G.ok 8) 8 (xVar 0))) (xBin oIx (xVar 3) (xC (.int 1))) (xC (.int 0)))
def L_Hearer_ask_5 (G : G) (c : Calls) : SM := sRet (xLst (lLst (aCons (xVar 3) (aNil))))
def L_Hearer_ask (G : G) (c : Calls) : SM := sSeq (L_Hearer_ask_1 G c) (sSeq (L_Hearer_ask_2 G c) (sSeq (L_Hearer_ask_3 G c) (sSeq (L_Hearer_ask_4 G c) (L_Hearer_ask_5 G c))))
theorem L_Hearer_ask_eq (G : G) (c : Calls) : B_Hearer_ask G c = L_Hearer_ask G c := rfl
def L_Hearer_took_1 (G : G) (c : Calls) : SM := sExpr (xCall c 32 (aCons (xVar 1) (aNil)))
def L_Hearer_took_2 (G : G) (c : Calls) : SM := sSet 2 (xBin oIx (xVar 1) (xC (.int 0)))
def L_Hearer_took_3t_1 (G : G) (c : Calls) : SM := sFld 32 (G.ok 27) 27 (xVar 0) (xC (.bl true))
def L_Hearer_took_3t_2 (G : G) (c : Calls) : SM := sIf (xNot (xBin oIx (xVar 1) (xC (.int 1)))) (sFld 32 (G.ok 15) 15 (xVar 0) (xMake c 15 63 aNil)) (sSkip)
def L_Hearer_took_3t_3 (G : G) (c : Calls) : SM := sRet (xMeth c (G.mt 0) 32 (xFld 32 (G.ok 14) 14 (xVar 0)) aNil)
def L_Hearer_took_3t (G : G) (c : Calls) : SM := sSeq (L_Hearer_took_3t_1 G c) (sSeq (L_Hearer_took_3t_2 G c) (L_Hearer_took_3t_3 G c))
def L_Hearer_took_3 (G : G) (c : Calls) : SM := sIf (xBin oEq (xVar 2) (xC (.str [103, 114, 101, 101, 116, 101, 100]))) (L_Hearer_took_3t G c) (sSkip)
def L_Hearer_took_4t_1 (G : G) (c : Calls) : SM := sTgt (.tup [3, 4]) (xMeth c (G.mt 38) 32 (xFld 32 (G.ok 15) 15 (xVar 0)) (aCons (xVar 1) (aNil)))
def L_Hearer_took_4t_2 (G : G) (c : Calls) : SM := sExpr (xExt (xFld 32 (G.ok 4) 4 (xVar 0)) (xVar 4))
def L_Hearer_took_4t_3 (G : G) (c : Calls) : SM := sRet (xVar 3)
def L_Hearer_took_4t (G : G) (c : Calls) : SM := sSeq (L_Hearer_took_4t_1 G c) (sSeq (L_Hearer_took_4t_2 G c) (L_Hearer_took_4t_3 G c))
def L_Hearer_took_4 (G : G) (c : Calls) : SM := sIf (xBin oIn (xVar 2) (xTup (aCons (xC (.str [115, 97, 121])) (aCons (xC (.str [102, 114, 101, 101])) (aNil))))) (L_Hearer_took_4t G c) (sSkip)
def L_Hearer_took_5 (G : G) (c : Calls) : SM := sIf (xBin oIn (xVar 2) (xTup (aCons (xC (.str [103, 111, 116])) (aCons (xC (.str [104, 101, 108, 100])) (aCons (xC (.str [100, 111, 110, 101])) (aNil)))))) (sRet (xMeth c (G.mt 38) 32 (xFld 32 (G.ok 14) 14 (xVar 0)) (aCons (xVar 1) (aNil)))) (sSkip)
def L_Hearer_took_6 (G : G) (c : Calls) : SM := sIf (xBin oEq (xVar 2) (xC (.str [104, 101, 97, 114, 100]))) (sExpr (xApp (xFld 32 (G.ok 29) 29 (xVar 0)) (xBin oIx (xVar 1) (xC (.int 2))))) (sSkip)
def L_Hearer_took_7 (G : G) (c : Calls) : SM := sRet (xLst (lLst (aNil)))
def L_Hearer_took (G : G) (c : Calls) : SM := sSeq (L_Hearer_took_1 G c) (sSeq (L_Hearer_took_2 G c) (sSeq (L_Hearer_took_3 G c) (sSeq (L_Hearer_took_4 G c) (sSeq (L_Hearer_took_5 G c) (sSeq (L_Hearer_took_6 G c) (L_Hearer_took_7 G c))))))
theorem L_Hearer_took_eq (G : G) (c : Calls) : B_Hearer_took G c = L_Hearer_took G c := rfl
def L_packed_1 (G : G) (c : Calls) : SM := sIf (xBin oIs (xVar 0) (xC .non)) (sRet (xC (.str [111]))) (sSkip)
def L_packed_2 (G : G) (c : Calls) : SM := sIf (xIsi (isiT 1) (xVar 0)) (sRet (xIf (xVar 0) (xC (.str [121])) (xC (.str [122])))) (sSkip)
def L_packed_3 (G : G) (c : Calls) : SM := sIf (xIsi (isiT 2) (xVar 0)) (sRet (xBin oAdd (xBin oAdd (xC (.str [110])) (xB bStr (aCons (xVar 0) (aNil)))) (xC (.str [59])))) (sSkip)
def L_packed_4 (G : G) (c : Calls) : SM := sIf (xIsi (isiT 3) (xVar 0)) (sRet (xBin oAdd (xBin oAdd (xBin oAdd (xC (.str [116])) (xB bStr (aCons (xB bLen (aCons (xVar 0) (aNil))) (aNil)))) (xC (.str [59]))) (xVar 0))) (sSkip)
def L_packed_5 (G : G) (c : Calls) : SM := sRet (xBin oAdd (xBin oAdd (xC (.str [40])) (xBm isStr oJoin (xC (.str [])) (xLst (lComp (iVal (xVar 0)) (.name 1) none (xCall c 108 (aCons (xVar 1) (aNil))) [1])))) (xC (.str [41])))
def L_packed (G : G) (c : Calls) : SM := sSeq (L_packed_1 G c) (sSeq (L_packed_2 G c) (sSeq (L_packed_3 G c) (sSeq (L_packed_4 G c) (L_packed_5 G c))))
theorem L_packed_eq (G : G) (c : Calls) : B_packed G c = L_packed G c := rfl
def L_Signs___init___1 (G : G) (c : Calls) : SM := sFld 32 (G.ok 30) 30 (xVar 0) (xVar 1)
def L_Signs___init___2 (G : G) (c : Calls) : SM := sFld 32 (G.ok 31) 31 (xVar 0) (xC (.int 0))
def L_Signs___init__ (G : G) (c : Calls) : SM := sSeq (L_Signs___init___1 G c) (L_Signs___init___2 G c)
theorem L_Signs___init___eq (G : G) (c : Calls) : B_Signs___init__ G c = L_Signs___init__ G c := rfl
def L_Signs_take_1 (G : G) (c : Calls) : SM := sIf (xBin oGt (xBin oAdd (xFld 32 (G.ok 31) 31 (xVar 0)) (xVar 1)) (xB bLen (aCons (xFld 32 (G.ok 30) 30 (xVar 0)) (aNil)))) (sRaise 5) (sSkip)
def L_Signs_take_2 (G : G) (c : Calls) : SM := sFld 32 (G.ok 31) 31 (xVar 0) (xBin oAdd (xFld 32 (G.ok 31) 31 (xVar 0)) (xVar 1))
def L_Signs_take_3 (G : G) (c : Calls) : SM := sRet (xSl (xFld 32 (G.ok 30) 30 (xVar 0)) (some (xBin oSub (xFld 32 (G.ok 31) 31 (xVar 0)) (xVar 1))) (some (xFld 32 (G.ok 31) 31 (xVar 0))))
def L_Signs_take (G : G) (c : Calls) : SM := sSeq (L_Signs_take_1 G c) (sSeq (L_Signs_take_2 G c) (L_Signs_take_3 G c))
theorem L_Signs_take_eq (G : G) (c : Calls) : B_Signs_take G c = L_Signs_take G c := rfl
def L_Signs_number_1 (G : G) (c : Calls) : SM := sSet 1 (xMeth c (G.mt 35) 32 (xVar 0) (aCons (xB bMax2 (aCons (xC (.int 0)) (aCons (xBin oSub (xFind (xFld 32 (G.ok 30) 30 (xVar 0)) (xC (.str [59])) (xFld 32 (G.ok 31) 31 (xVar 0))) (xFld 32 (G.ok 31) 31 (xVar 0))) (aNil)))) (aNil)))
def L_Signs_number_2 (G : G) (c : Calls) : SM := sExpr (xMeth c (G.mt 35) 32 (xVar 0) (aCons (xC (.int 1)) (aNil)))
def L_Signs_number_3 (G : G) (c : Calls) : SM := sSet 2 (xIf (xBm isStr oStarts (xVar 1) (xC (.str [45]))) (xSl (xVar 1) (some (xC (.int 1))) none) (xVar 1))
def L_Signs_number_4 (G : G) (c : Calls) : SM := sIf (xOr (xNot (xChain oLe oLe (xC (.int 1)) (xB bLen (aCons (xVar 2) (aNil))) (xC (.int 15)))) (xNot (xB bAll (aCons (xLst (lComp (iVal (xVar 2)) (.name 3) none (xBin oIn (xVar 3) (xC (.str [48, 49, 50, 51, 52, 53, 54, 55, 56, 57]))) [3])) (aNil))))) (sRaise 5) (sSkip)
def L_Signs_number_5 (G : G) (c : Calls) : SM := sRet (xB bInt (aCons (xVar 1) (aNil)))
def L_Signs_number (G : G) (c : Calls) : SM := sSeq (L_Signs_number_1 G c) (sSeq (L_Signs_number_2 G c) (sSeq (L_Signs_number_3 G c) (sSeq (L_Signs_number_4 G c) (L_Signs_number_5 G c))))
theorem L_Signs_number_eq (G : G) (c : Calls) : B_Signs_number G c = L_Signs_number G c := rfl
def L_Signs_unpacked_1 (G : G) (c : Calls) : SM := sSet 1 (xMeth c (G.mt 35) 32 (xVar 0) (aCons (xC (.int 1)) (aNil)))
def L_Signs_unpacked_2 (G : G) (c : Calls) : SM := sIf (xBin oEq (xVar 1) (xC (.str [111]))) (sRet (xC .non)) (sSkip)
def L_Signs_unpacked_3 (G : G) (c : Calls) : SM := sIf (xBin oIn (xVar 1) (xC (.str [121, 122]))) (sRet (xBin oEq (xVar 1) (xC (.str [121])))) (sSkip)
def L_Signs_unpacked_4 (G : G) (c : Calls) : SM := sIf (xBin oEq (xVar 1) (xC (.str [110]))) (sRet (xMeth c (G.mt 27) 32 (xVar 0) aNil)) (sSkip)
def L_Signs_unpacked_5 (G : G) (c : Calls) : SM := sIf (xBin oEq (xVar 1) (xC (.str [116]))) (sRet (xMeth c (G.mt 35) 32 (xVar 0) (aCons (xB bMax2 (aCons (xC (.int 0)) (aCons (xMeth c (G.mt 27) 32 (xVar 0) aNil) (aNil)))) (aNil)))) (sSkip)
def L_Signs_unpacked_6 (G : G) (c : Calls) : SM := sIf (xBin oNe (xVar 1) (xC (.str [40]))) (sRaise 5) (sSkip)
def L_Signs_unpacked_7 (G : G) (c : Calls) : SM := sSet 2 (xMut (lLst (aNil)))
def L_Signs_unpacked_8b_1 (G : G) (c : Calls) : SM := sExpr (xApp (xVar 2) (xMeth c (G.mt 39) 32 (xVar 0) aNil))
def L_Signs_unpacked_8b (G : G) (c : Calls) : SM := L_Signs_unpacked_8b_1 G c
def L_Signs_unpacked_8 (G : G) (c : Calls) : SM := sWhile (xBin oNe (xSl (xFld 32 (G.ok 30) 30 (xVar 0)) (some (xFld 32 (G.ok 31) 31 (xVar 0))) (some (xBin oAdd (xFld 32 (G.ok 31) 31 (xVar 0)) (xC (.int 1))))) (xC (.str [41]))) (L_Signs_unpacked_8b G c)
def L_Signs_unpacked_9 (G : G) (c : Calls) : SM := sExpr (xMeth c (G.mt 35) 32 (xVar 0) (aCons (xC (.int 1)) (aNil)))
def L_Signs_unpacked_10 (G : G) (c : Calls) : SM := sRet (xTuple (xVar 2))
def L_Signs_unpacked (G : G) (c : Calls) : SM := sSeq (L_Signs_unpacked_1 G c) (sSeq (L_Signs_unpacked_2 G c) (sSeq (L_Signs_unpacked_3 G c) (sSeq (L_Signs_unpacked_4 G c) (sSeq (L_Signs_unpacked_5 G c) (sSeq (L_Signs_unpacked_6 G c) (sSeq (L_Signs_unpacked_7 G c) (sSeq (L_Signs_unpacked_8 G c) (sSeq (L_Signs_unpacked_9 G c) (L_Signs_unpacked_10 G c)))))))))
theorem L_Signs_unpacked_eq (G : G) (c : Calls) : B_Signs_unpacked G c = L_Signs_unpacked G c := rfl
def L_session_row_1 (G : G) (c : Calls) : SM := sSet 2 (xFld 32 (G.ok 14) 14 (xVar 1))
def L_session_row_2 (G : G) (c : Calls) : SM := sSet 3 (xTup (aCons (xVar 0) (aCons (xFld 32 (G.ok 16) 16 (xVar 1)) (aCons (xFld 32 (G.ok 17) 17 (xVar 1)) (aCons (xFld 32 (G.ok 18) 18 (xVar 1)) (aCons (xFld 32 (G.ok 12) 12 (xFld 32 (G.ok 15) 15 (xVar 1))) (aNil)))))))
def L_session_row_3 (G : G) (c : Calls) : SM := sRet (xBin oAdd (xVar 3) (xTup (aCons (xFld 32 (G.ok 9) 9 (xVar 2)) (aCons (xFld 32 (G.ok 10) 10 (xVar 2)) (aCons (xFld 32 (G.ok 11) 11 (xVar 2)) (aNil))))))
def L_session_row (G : G) (c : Calls) : SM := sSeq (L_session_row_1 G c) (sSeq (L_session_row_2 G c) (L_session_row_3 G c))
theorem L_session_row_eq (G : G) (c : Calls) : B_session_row G c = L_session_row G c := rfl
def L_written_house_1 (G : G) (c : Calls) : SM := sSet 1 (xLst (lComp (iVal (xLst (lSortK (xFld 32 (G.ok 20) 20 (xVar 0))))) (.name 6) none (xCall c 113 (aCons (xVar 6) (aCons (xDGet (xFld 32 (G.ok 20) 20 (xVar 0)) (xVar 6)) (aNil)))) [6]))
def L_written_house_2 (G : G) (c : Calls) : SM := sSet 2 (xLst (lComp (iVal (xLst (lSortK (xFld 32 (G.ok 3) 3 (xFld 32 (G.ok 22) 22 (xVar 0)))))) (.name 7) none (xTup (aCons (xBin oIx (xVar 7) (xC (.int 0))) (aCons (xBin oIx (xVar 7) (xC (.int 1))) (aCons (xDGet (xFld 32 (G.ok 3) 3 (xFld 32 (G.ok 22) 22 (xVar 0))) (xVar 7)) (aNil))))) [7]))
def L_written_house_3 (G : G) (c : Calls) : SM := sSet 3 (xMut (lLst (aNil)))
def L_written_house_4b_1 (G : G) (c : Calls) : SM := sSet 5 (xLst (lComp (iVal (xLst (lSortK (xDGet (xFld 32 (G.ok 23) 23 (xVar 0)) (xVar 4))))) (.name 6) none (xTup (aCons (xVar 6) (aCons (xDGet (xDGet (xFld 32 (G.ok 23) 23 (xVar 0)) (xVar 4)) (xVar 6)) (aNil)))) [6]))
def L_written_house_4b_2 (G : G) (c : Calls) : SM := sExpr (xApp (xVar 3) (xTup (aCons (xVar 4) (aCons (xVar 5) (aCons (xDGet2 (xFld 32 (G.ok 24) 24 (xVar 0)) (xVar 4) (xC .non)) (aNil))))))
def L_written_house_4b (G : G) (c : Calls) : SM := sSeq (L_written_house_4b_1 G c) (L_written_house_4b_2 G c)
def L_written_house_4 (G : G) (c : Calls) : SM := sFor (iVal (xLst (lSortK (xFld 32 (G.ok 23) 23 (xVar 0))))) (.name 4) (L_written_house_4b G c)
def L_written_house_5 (G : G) (c : Calls) : SM := sRet (xCall c 108 (aCons (xTup (aCons (xFld 32 (G.ok 7) 7 (xVar 0)) (aCons (xFld 32 (G.ok 8) 8 (xVar 0)) (aCons (xFld 32 (G.ok 19) 19 (xVar 0)) (aCons (xVar 1) (aCons (xVar 2) (aCons (xVar 3) (aCons (xMeth c (G.mt 21) 32 (xVar 0) aNil) (aNil))))))))) (aNil)))
def L_written_house (G : G) (c : Calls) : SM := sSeq (L_written_house_1 G c) (sSeq (L_written_house_2 G c) (sSeq (L_written_house_3 G c) (sSeq (L_written_house_4 G c) (L_written_house_5 G c))))
theorem L_written_house_eq (G : G) (c : Calls) : B_written_house G c = L_written_house G c := rfl
def L_woken_session_1 (G : G) (c : Calls) : SM := sTgt (.tup [3, 4, 5, 6, 7, 8, 9, 10]) (xVar 1)
def L_woken_session_2 (G : G) (c : Calls) : SM := sSet 2 (xMake c 17 75 (aCons (xFld 32 (G.ok 7) 7 (xVar 0)) (aCons (xFld 32 (G.ok 8) 8 (xVar 0)) (aNil))))
def L_woken_session_3 (G : G) (c : Calls) : SM := sFld 32 (G.ok 16) 16 (xVar 2) (xVar 4)
def L_woken_session_4 (G : G) (c : Calls) : SM := sFld 32 (G.ok 17) 17 (xVar 2) (xVar 5)
def L_woken_session_5 (G : G) (c : Calls) : SM := sFld 32 (G.ok 18) 18 (xVar 2) (xVar 6)
def L_woken_session_6 (G : G) (c : Calls) : SM := sFld 32 (G.ok 12) 12 (xFld 32 (G.ok 15) 15 (xVar 2)) (xMut (lList (xVar 7)))
def L_woken_session_7 (G : G) (c : Calls) : SM := sFld 32 (G.ok 9) 9 (xFld 32 (G.ok 14) 14 (xVar 2)) (xVar 8)
def L_woken_session_8 (G : G) (c : Calls) : SM := sFld 32 (G.ok 10) 10 (xFld 32 (G.ok 14) 14 (xVar 2)) (xMut (lList (xVar 9)))
def L_woken_session_9 (G : G) (c : Calls) : SM := sFld 32 (G.ok 11) 11 (xFld 32 (G.ok 14) 14 (xVar 2)) (xMut (lList (xVar 10)))
def L_woken_session_10 (G : G) (c : Calls) : SM := sDPut (xFld 32 (G.ok 20) 20 (xVar 0)) (xVar 3) (xVar 2)
def L_woken_session_11 (G : G) (c : Calls) : SM := sIf (xBin oIsNot (xVar 4) (xC .non)) (sDPut (xFld 32 (G.ok 21) 21 (xVar 0)) (xVar 4) (xVar 3)) (sSkip)
def L_woken_session (G : G) (c : Calls) : SM := sSeq (L_woken_session_1 G c) (sSeq (L_woken_session_2 G c) (sSeq (L_woken_session_3 G c) (sSeq (L_woken_session_4 G c) (sSeq (L_woken_session_5 G c) (sSeq (L_woken_session_6 G c) (sSeq (L_woken_session_7 G c) (sSeq (L_woken_session_8 G c) (sSeq (L_woken_session_9 G c) (sSeq (L_woken_session_10 G c) (L_woken_session_11 G c))))))))))
theorem L_woken_session_eq (G : G) (c : Calls) : B_woken_session G c = L_woken_session G c := rfl
def L_woken_house_1 (G : G) (c : Calls) : SM := sTgt (.tup [3, 4, 5, 6, 7, 8, 9]) (xMeth c (G.mt 39) 32 (xMake c 20 109 (aCons (xVar 0) (aNil))) aNil)
def L_woken_house_2 (G : G) (c : Calls) : SM := sSet 1 (xMake c 18 78 (aCons (xVar 3) (aCons (xVar 4) (aCons (xLst (lList (xVar 5))) (aNil)))))
def L_woken_house_3b_1 (G : G) (c : Calls) : SM := sExpr (xCall c 115 (aCons (xVar 1) (aCons (xVar 2) (aNil))))
def L_woken_house_3b (G : G) (c : Calls) : SM := L_woken_house_3b_1 G c
def L_woken_house_3 (G : G) (c : Calls) : SM := sFor (iVal (xVar 6)) (.name 2) (L_woken_house_3b G c)
def L_woken_house_4b_1 (G : G) (c : Calls) : SM := sExpr (xMeth c (G.mt 31) 32 (xFld 32 (G.ok 22) 22 (xVar 1)) (aCons (xVar 10) (aCons (xVar 11) (aCons (xVar 12) (aNil)))))
def L_woken_house_4b (G : G) (c : Calls) : SM := L_woken_house_4b_1 G c
def L_woken_house_4 (G : G) (c : Calls) : SM := sFor (iVal (xVar 7)) (.tup [10, 11, 12]) (L_woken_house_4b G c)
def L_woken_house_5b_1 (G : G) (c : Calls) : SM := sDPut (xFld 32 (G.ok 23) 23 (xVar 1)) (xVar 13) (xDNew false)
def L_woken_house_5b_2b_1 (G : G) (c : Calls) : SM := sDPut (xDGet (xFld 32 (G.ok 23) 23 (xVar 1)) (xVar 13)) (xVar 10) (xVar 12)
def L_woken_house_5b_2b (G : G) (c : Calls) : SM := L_woken_house_5b_2b_1 G c
def L_woken_house_5b_2 (G : G) (c : Calls) : SM := sFor (iVal (xVar 14)) (.tup [10, 12]) (L_woken_house_5b_2b G c)
def L_woken_house_5b_3 (G : G) (c : Calls) : SM := sIf (xBin oIsNot (xVar 15) (xC .non)) (sDPut (xFld 32 (G.ok 24) 24 (xVar 1)) (xVar 13) (xVar 15)) (sSkip)
def L_woken_house_5b (G : G) (c : Calls) : SM := sSeq (L_woken_house_5b_1 G c) (sSeq (L_woken_house_5b_2 G c) (L_woken_house_5b_3 G c))
def L_woken_house_5 (G : G) (c : Calls) : SM := sFor (iVal (xVar 8)) (.tup [13, 14, 15]) (L_woken_house_5b G c)
def L_woken_house_6b_1 (G : G) (c : Calls) : SM := sDPut (xFld 32 (G.ok 25) 25 (xVar 1)) (xVar 16) (xTup (aCons (xVar 17) (aCons (xVar 12) (aNil))))
def L_woken_house_6b (G : G) (c : Calls) : SM := L_woken_house_6b_1 G c
def L_woken_house_6 (G : G) (c : Calls) : SM := sFor (iVal (xVar 9)) (.tup [16, 17, 12]) (L_woken_house_6b G c)
def L_woken_house_7 (G : G) (c : Calls) : SM := sRet (xVar 1)
def L_woken_house (G : G) (c : Calls) : SM := sSeq (L_woken_house_1 G c) (sSeq (L_woken_house_2 G c) (sSeq (L_woken_house_3 G c) (sSeq (L_woken_house_4 G c) (sSeq (L_woken_house_5 G c) (sSeq (L_woken_house_6 G c) (L_woken_house_7 G c))))))
theorem L_woken_house_eq (G : G) (c : Calls) : B_woken_house G c = L_woken_house G c := rfl
end TH.PG
end
section
set_option linter.all false
set_option autoImplicit false
/-! TG: the giver, plain. -/
namespace TH.Q
open TH
/-- a tiding -/
structure Tid where
  n : List Nat
  b : List Nat
  g : Int
  k : Bool
  deriving DecidableEq, Inhabited
def Tid.d (t : Tid) : D := .tup [.str t.n, .str t.b, .int t.g, .bl t.k]
/-- one under way: its id, its grade (3: freed), itself -/
structure Fly where
  i : Int
  g : Int
  t : Option Tid
  deriving DecidableEq, Inhabited
def oTid : Option Tid → D
  | none => .non
  | some t => t.d
def Fly.d (f : Fly) : D := .tup [.int f.i, .int f.g, oTid f.t]
structure Gv where
  win : Int
  most : Int
  last : Int
  wait : List Tid
  fly : List Fly
/-- what is sent -/
inductive Sn where
  | say (t : Tid) (again : Bool) (i : Int)
  | free (i : Int)
  deriving DecidableEq
def wSay : List Nat := [115, 97, 121]
def wFree : List Nat := [102, 114, 101, 101]
def wGot : List Nat := [103, 111, 116]
def wHeld : List Nat := [104, 101, 108, 100]
def wDone : List Nat := [100, 111, 110, 101]
def Sn.d : Sn → D
  | .say t r i => .tup [.str wSay, .str t.n, .str t.b, .int t.g, .bl t.k, .bl r, .int i]
  | .free i => .tup [.str wFree, .int i]
/-! ### ids in their rounds -/
def idStep (m l : Int) : Int := if l < m then l + 1 else 1
def idSeq (m : Int) : Nat → Int → List Int
  | 0, _ => []
  | n + 1, l => idStep m l :: idSeq m n (idStep m l)
def newId? (m : Int) (used : List Int) (l : Int) : Option Int := (idSeq m m.toNat l).find? fun x => !used.contains x
def newId (m : Int) (used : List Int) (l : Int) : Int := (newId? m used l).getD 0
theorem idStep_in {m l : Int} (hm : 1 ≤ m) (h0 : 0 ≤ l) : 1 ≤ idStep m l ∧ idStep m l ≤ m := by
  unfold idStep; split <;> omega
theorem idSeq_in {m : Int} (hm : 1 ≤ m) : ∀ (n : Nat) (l : Int), 0 ≤ l → ∀ x ∈ idSeq m n l, 1 ≤ x ∧ x ≤ m
  | 0, _, _, x, h => by cases h
  | n + 1, l, h0, x, h => by
    have k := idStep_in hm h0
    rcases List.mem_cons.mp h with rfl | h
    · exact k
    · exact idSeq_in hm n _ (by omega) x h
theorem idSeq_up {m : Int} : ∀ (n : Nat) (l : Int), l + n ≤ m → idSeq m n l = (List.range n).map fun (k : Nat) => l + 1 + k
  | 0, _, _ => rfl
  | n + 1, l, h => by
    have e : idStep m l = l + 1 := by unfold idStep; rw [if_pos (by omega)]
    show idStep m l :: idSeq m n (idStep m l) = _
    rw [e, idSeq_up n (l + 1) (by omega), List.range_succ_eq_map, List.map_cons, List.map_map]
    congr 1
    · simp
    · apply List.map_congr_left; intro a _; simp only [Function.comp]; omega
theorem idSeq_add {m : Int} : ∀ (a b : Nat) (l : Int), idSeq m (a + b) l = idSeq m a l ++ idSeq m b ((idSeq m a l).getLast?.getD l)
  | 0, b, l => by simp [idSeq]
  | a + 1, b, l => by
    rw [show a + 1 + b = (a + b) + 1 by omega]
    show idStep m l :: idSeq m (a + b) (idStep m l) = (idStep m l :: idSeq m a (idStep m l)) ++ _
    rw [idSeq_add a b, List.cons_append]
    congr 3
    rw [show idSeq m (a + 1) l = idStep m l :: idSeq m a (idStep m l) from rfl, List.getLast?_cons]
    cases idSeq m a (idStep m l) with
    | nil => rfl
    | cons x xs => simp [List.getLast?_cons]
/-- the round, as a walk over the numbers -/
theorem idSeq_round {m l : Int} (h0 : 0 ≤ l) (hl : l ≤ m) : idSeq m m.toNat l = ((List.range (m - l).toNat).map fun (k : Nat) => l + 1 + k) ++ (List.range l.toNat).map fun (k : Nat) => (1 : Int) + k := by
  have e : m.toNat = (m - l).toNat + l.toNat := by omega
  rw [e, idSeq_add, idSeq_up _ _ (by omega)]
  congr 1
  by_cases hm : m = l
  · subst hm
    have z : (m - m).toNat = 0 := by omega
    rw [z]
    show idSeq m m.toNat m = _
    cases hn : m.toNat with
    | zero => rfl
    | succ n =>
      have es : idStep m m = 1 := by unfold idStep; rw [if_neg (by omega)]
      show idStep m m :: idSeq m n (idStep m m) = _
      rw [es, idSeq_up n 1 (by omega), List.range_succ_eq_map, List.map_cons, List.map_map]
      congr 1
      apply List.map_congr_left; intro a _; simp only [Function.comp]; omega
  · obtain ⟨k, hk⟩ : ∃ k, (m - l).toNat = k + 1 := ⟨(m - l).toNat - 1, by omega⟩
    rw [hk, List.range_succ, List.map_append]
    simp only [List.map_cons, List.map_nil, List.getLast?_append, List.getLast?_singleton, Option.getD_some, Option.some_or]
    have ek : l + 1 + (k : Int) = m := by omega
    rw [ek]
    cases hn : l.toNat with
    | zero => rfl
    | succ n =>
      have es : idStep m m = 1 := by unfold idStep; rw [if_neg (by omega)]
      show idStep m m :: idSeq m n (idStep m m) = _
      rw [es, idSeq_up n 1 (by omega), List.range_succ_eq_map, List.map_cons, List.map_map]
      congr 1
      apply List.map_congr_left; intro a _; simp only [Function.comp]; omega
theorem pigeon : ∀ (m : Nat) (used : List Int), (∀ i : Int, 1 ≤ i → i ≤ m → i ∈ used) → m ≤ used.length
  | 0, _, _ => Nat.zero_le _
  | m + 1, used, h => by
    have hm : ((m : Int) + 1) ∈ used := h _ (by omega) (by omega)
    have k := pigeon m (used.erase ((m : Int) + 1)) fun i h1 h2 => by
      rw [List.mem_erase_of_ne (by omega)]
      exact h i h1 (by omega)
    rw [List.length_erase_of_mem hm] at k
    have := List.length_pos_of_mem hm
    omega
theorem newId_some {m l : Int} {used : List Int} (h0 : 0 ≤ l) (hl : l ≤ m) (hu : (used.length : Int) < m) : newId? m used l = some (newId m used l) ∧ newId m used l ∉ used ∧ 1 ≤ newId m used l ∧ newId m used l ≤ m := by
  have ex : ∃ x, newId? m used l = some x := by
    cases e : newId? m used l with
    | some x => exact ⟨x, rfl⟩
    | none =>
      exfalso
      unfold newId? at e
      rw [List.find?_eq_none] at e
      have k := pigeon m.toNat used fun i h1 h2 => by
        have hi : i ∈ idSeq m m.toNat l := by
          rw [idSeq_round h0 hl, List.mem_append, List.mem_map, List.mem_map]
          by_cases h : l < i
          · exact .inl ⟨(i - l - 1).toNat, List.mem_range.mpr (by omega), by omega⟩
          · exact .inr ⟨(i - 1).toNat, List.mem_range.mpr (by omega), by omega⟩
        have := e i hi
        simpa using this
      omega
  obtain ⟨x, e⟩ := ex
  have en : newId m used l = x := by unfold newId; rw [e]; rfl
  rw [en]
  refine ⟨e, ?_⟩
  have h1 := List.find?_some e
  have h2 := List.mem_of_find?_eq_some e
  refine ⟨by simpa using h1, idSeq_in (by omega) _ _ h0 x h2⟩
/-! ### the giver's deeds -/
def ids (fs : List Fly) : List Int := fs.map Fly.i
structure Gs where
  last : Int
  wait : List Tid
  fly : List Fly
  out : List Sn
def pumpL (win most : Int) : List Tid → Int → List Fly → Gs
  | [], l, fs => ⟨l, [], fs, []⟩
  | t :: ts, l, fs => if (fs.length : Int) < win then
      let n := newId most (ids fs) l
      let r := pumpL win most ts n (fs ++ [⟨n, t.g, some t⟩])
      ⟨r.last, r.wait, r.fly, .say t false n :: r.out⟩
    else ⟨l, t :: ts, fs, []⟩
def Gv.pump (g : Gv) : Gv × List Sn :=
  let r := pumpL g.win g.most g.wait g.last g.fly
  (⟨g.win, g.most, r.last, r.wait, r.fly⟩, r.out)
def Gv.keep (g : Gv) (t : Tid) : Gv := if t.g > 0 then { g with wait := g.wait ++ [t] } else g
def Gv.say (g : Gv) (t : Tid) : Gv × List Sn := if t.g = 0 then (g, [.say t false 0]) else (g.keep t).pump
def Gv.place (g : Gv) (i gr : Int) : Option Nat := g.fly.findIdx? fun f => f.i == i && f.g == gr
def Gv.held (g : Gv) (i : Int) : Gv × List Sn := match g.place i 2 with
  | some at_ => ({ g with fly := g.fly.set at_ ⟨i, 3, none⟩ }, [.free i])
  | none => (g, if (g.place i 3).isSome then [.free i] else [])
def Gv.over (g : Gv) (i gr : Int) : Gv × List Sn := match g.place i gr with
  | some at_ => Gv.pump { g with fly := g.fly.eraseIdx at_ }
  | none => (g, [])
def Fly.again (f : Fly) : Sn := match f.t with
  | none => .free f.i
  | some t => .say t true f.i
def Gv.again (g : Gv) : Gv × List Sn := let r := g.pump; (r.1, g.fly.map Fly.again ++ r.2)
/-- the right windows and numbers -/
structure Gv.Ok (g : Gv) : Prop where
  w1 : 1 ≤ g.win
  wm : g.win ≤ g.most
  l0 : 0 ≤ g.last
  lm : g.last ≤ g.most
theorem pumpL_last {win most : Int} (hw : win ≤ most) (h1 : 1 ≤ win) : ∀ (ts : List Tid) (l : Int) (fs : List Fly), 0 ≤ l → l ≤ most → 0 ≤ (pumpL win most ts l fs).last ∧ (pumpL win most ts l fs).last ≤ most
  | [], l, fs, h0, hl => ⟨h0, hl⟩
  | t :: ts, l, fs, h0, hl => by
    unfold pumpL
    by_cases h : (fs.length : Int) < win
    · rw [if_pos h]
      have k := newId_some (used := ids fs) h0 hl (by unfold ids; simp; omega)
      exact pumpL_last hw h1 ts _ _ (by omega) k.2.2.2
    · rw [if_neg h]; exact ⟨h0, hl⟩
theorem pumpL_wait {win most : Int} : ∀ (ts : List Tid) (l : Int) (fs : List Fly), (pumpL win most ts l fs).wait.length ≤ ts.length ∧ (pumpL win most ts l fs).fly.length + (pumpL win most ts l fs).wait.length = fs.length + ts.length
  | [], l, fs => by simp [pumpL]
  | t :: ts, l, fs => by
    unfold pumpL
    by_cases h : (fs.length : Int) < win
    · rw [if_pos h]
      have k := pumpL_wait (win := win) (most := most) ts (newId most (ids fs) l) (fs ++ [⟨newId most (ids fs) l, t.g, some t⟩])
      simp only [List.length_append, List.length_cons, List.length_nil] at k ⊢
      omega
    · rw [if_neg h]; simp
theorem Gv.Ok.pump {g : Gv} (o : g.Ok) : g.pump.1.Ok := by
  have k := pumpL_last o.wm o.w1 g.wait g.last g.fly o.l0 o.lm
  exact ⟨o.w1, o.wm, k.1, k.2⟩
theorem Gv.Ok.keep {g : Gv} (o : g.Ok) (t : Tid) : (g.keep t).Ok := by
  unfold Gv.keep; split
  · exact ⟨o.w1, o.wm, o.l0, o.lm⟩
  · exact o
theorem Gv.Ok.fly {g : Gv} (o : g.Ok) (fs : List Fly) : Gv.Ok { g with fly := fs } := ⟨o.w1, o.wm, o.l0, o.lm⟩
end TH.Q
end
section
set_option linter.all false
set_option autoImplicit false
/-! TS1: the program's ends, proved once for all laws: the giver. Plain Lean. -/
namespace TH.Q
open TH
/-- only what is in F, and what is new, is changed -/
structure Stp (F : List Nat) (st st' : St) : Prop where
  keep : ∀ j, j < st.length → j ∉ F → st'[j]? = st[j]?
  len : st.length ≤ st'.length
theorem Stp.refl (F : List Nat) (st : St) : Stp F st st := ⟨fun _ _ _ => rfl, Nat.le_refl _⟩
theorem Stp.trans {F F' F'' : List Nat} {s0 s1 s2 : St} (h : Stp F s0 s1) (h' : Stp F' s1 s2) (i : ∀ j ∈ F, j ∈ F'') (i' : ∀ j ∈ F', j ∈ F'' ∨ s0.length ≤ j) : Stp F'' s0 s2 :=
  ⟨fun j hj hn => by
    rw [h'.keep j (Nat.lt_of_lt_of_le hj h.len) fun z => (i' j z).elim hn (fun z => by omega), h.keep j hj fun z => hn (i j z)], Nat.le_trans h.len h'.len⟩
theorem Stp.mono {F F' : List Nat} {s0 s1 : St} (h : Stp F s0 s1) (i : ∀ j ∈ F, j ∈ F') : Stp F' s0 s1 := ⟨fun j hj hn => h.keep j hj fun z => hn (i j z), h.len⟩
theorem Stp.set {n : Nat} {F : List Nat} {st : St} (o : Ob) (h : n ∈ F) : Stp F st (st.set n o) := ⟨fun j _ hn => List.getElem?_set_ne (by rintro rfl; exact hn h), by simp⟩
theorem Stp.app (F : List Nat) (st : St) (o : St) : Stp F st (st ++ o) := ⟨fun j hj _ => List.getElem?_append_left hj, by simp⟩
theorem get_lt {α : Type} {l : List α} {j : Nat} {a : α} (h : l[j]? = some a) : j < l.length := (List.getElem?_eq_some_iff.mp h).1
theorem Stp.get {F : List Nat} {st st' : St} (h : Stp F st st') {j : Nat} {o : Ob} (e : st[j]? = some o) (hn : j ∉ F) : st'[j]? = some o := (h.keep j (get_lt e) hn).trans e

/-! ### the giver in the store -/
def gvOb (a b : Nat) (g : Gv) : Ob := .ins 14 [(7, .int g.win), (8, .int g.most), (9, .int g.last), (10, .ref a), (11, .ref b)]
structure GvI (p a b : Nat) (g : Gv) (st : St) : Prop where
  ob : st[p]? = some (gvOb a b g)
  wt : st[a]? = some (.ml (g.wait.map Tid.d))
  fl : st[b]? = some (.ml (g.fly.map Fly.d))
  ne : a ≠ b
theorem GvI.pa {p a b : Nat} {g : Gv} {st : St} (h : GvI p a b g st) : p ≠ a := by rintro rfl; have := h.ob; rw [h.wt] at this; cases this
theorem GvI.pb {p a b : Nat} {g : Gv} {st : St} (h : GvI p a b g st) : p ≠ b := by rintro rfl; have := h.ob; rw [h.fl] at this; cases this
theorem GvI.keep {p a b : Nat} {g : Gv} {st st' : St} (h : GvI p a b g st) (k : ∀ j, (j = p ∨ j = a ∨ j = b) → st'[j]? = st[j]?) : GvI p a b g st' :=
  ⟨(k p (.inl rfl)).trans h.ob, (k a (.inr (.inl rfl))).trans h.wt, (k b (.inr (.inr rfl))).trans h.fl, h.ne⟩
theorem GvI.stp {p a b : Nat} {g : Gv} {st st' : St} {F : List Nat} (h : GvI p a b g st) (k : Stp F st st') (hp : p ∉ F) (ha : a ∉ F) (hb : b ∉ F) : GvI p a b g st' :=
  h.keep fun j hj => by
    rcases hj with rfl | rfl | rfl
    · exact k.keep _ (get_lt h.ob) hp
    · exact k.keep _ (get_lt h.wt) ha
    · exact k.keep _ (get_lt h.fl) hb
/-- no more than can be counted -/
structure Gv.Sm (g : Gv) : Prop where
  m : g.most ≤ 65535
  w : g.wait.length ≤ 10000
  f : g.fly.length ≤ 10000
/-- what the law's text has of it -/
structure HasGv (G : PG.G) : Prop where
  o7 : G.ok 7 14 = true
  o8 : G.ok 8 14 = true
  o9 : G.ok 9 14 = true
  o10 : G.ok 10 14 = true
  o11 : G.ok 11 14 = true
  keep : G.mt 20 14 = some 57
  number : G.mt 27 14 = some 55
  place : G.mt 28 14 = some 59
  pump : G.mt 30 14 = some 56
section
variable {G : PG.G} {R : Nat → Calls} (hR : PG.Run G R) (hG : HasGv G)
include hR hG
theorem number_loop {p a b : Nat} {used : List Int} {x : Option D} : ∀ (n : Nat) (g : Gv) (l r : Int) (st : St) (fuel : Nat), st[p]? = some (gvOb a b { g with last := idStep g.most l }) → (idSeq g.most n l).find? (fun x => !used.contains x) = some r → n ≤ fuel →
    wLoop (xBin oIn (xFld 32 (G.ok 9) 9 (xVar 0)) (xVar 1)) (sFld 32 (G.ok 9) 9 (xVar 0) (xIf (xBin oLt (xFld 32 (G.ok 9) 9 (xVar 0)) (xFld 32 (G.ok 8) 8 (xVar 0))) (xBin oAdd (xFld 32 (G.ok 9) 9 (xVar 0)) (xC (.int 1))) (xC (.int 1)))) fuel [some (.ref p), some (.lst (used.map D.int)), x] st
      = .nx [some (.ref p), some (.lst (used.map D.int)), x] (st.set p (gvOb a b { g with last := r }))
  | 0, _, _, _, _, _, _, h, _ => by cases h
  | n + 1, g, l, r, st, 0, _, _, h => by omega
  | n + 1, g, l, r, st, fuel + 1, hp, hf, hn => by
    have hin : ∀ st, oIn (.int (idStep g.most l)) (.lst (used.map D.int)) st = some (.bl (used.contains (idStep g.most l))) := by
      intro st
      rw [oIn_lst rfl (by simp [D.flat])]
      congr 2
      rw [List.any_map]
      show used.any (fun y => y == idStep g.most l) = _
      rw [Bool.eq_iff_iff]; simp
    have hf : ((idStep g.most l) :: idSeq g.most n (idStep g.most l)).find? (fun x => !used.contains x) = some r := hf
    have hp' := hp
    simp only [gvOb] at hp'
    unfold wLoop
    cases hc : used.contains (idStep g.most l) with
    | true =>
      rw [List.find?_cons, hc] at hf
      have hin := fun st => (hin st).trans (by rw [hc])
      have hpl := get_lt hp
      have ih := number_loop (x := x) n g (idStep g.most l) r (st.set p (gvOb a b { g with last := idStep g.most (idStep g.most l) })) fuel (List.getElem?_set_self hpl) hf (by omega)
      rw [List.set_set] at ih
      have e : (if idStep g.most l < g.most then idStep g.most l + 1 else 1) = idStep g.most (idStep g.most l) := rfl
      simp [hp', hG.o9, hG.o8, fok, fget, fput, hin, e]
      simpa only [gvOb] using ih
    | false =>
      rw [List.find?_cons, hc] at hf
      have hin := fun st => (hin st).trans (by rw [hc])
      have hf : idStep g.most l = r := Option.some.inj hf
      simp [hp', hG.o9, hG.o8, fok, fget, fput, hin]
      rw [← hf]
      have := List.getElem?_eq_some_iff.mp hp
      rw [← this.2]
      exact (List.set_getElem_self this.1).symm
theorem number_ok (k : Nat) {p a b : Nat} {g : Gv} {st : St} (h : GvI p a b g st) (o : g.Ok) (s : g.Sm) (hf : (g.fly.length : Int) < g.most) :
    R (k + 1) 55 [.ref p] st = .ok (.int (newId g.most (ids g.fly) g.last)) (st.set p (gvOb a b { g with last := newId g.most (ids g.fly) g.last })) := by
  rw [PG.eq_Giver_number hR k, ap_body (by rfl)]
  unfold PG.B_Giver_number
  have hp := h.ob
  simp only [gvOb] at hp
  have hpl := get_lt h.ob
  have k1 := newId_some (used := ids g.fly) o.l0 o.lm (by simpa [ids] using hf)
  have hc : cObj (.name 2) none (xBin oIx (xVar 2) (xC (.int 0))) [some (.ref p), none, none] b FU 0 [] st = .ok (g.fly.map fun f => .int f.i) st :=
    cObj_map (f := Fly.d) (g := fun f => .int f.i) (l := g.fly) h.fl (fun f _ => ⟨_, put_name _ _ _ _, by simp [Fly.d]⟩) (by have := s.f; omega)
  have hi : (g.fly.map fun f => D.int f.i) = (ids g.fly).map D.int := by simp [ids]
  rw [hi] at hc
  have hm : (g.most.toNat) ≤ FU := by have := s.m; show g.most.toNat ≤ 100000; omega
  have hl := number_loop hR hG (p := p) (a := a) (b := b) (used := ids g.fly) (x := none) g.most.toNat g g.last _ (st.set p (gvOb a b { g with last := idStep g.most g.last })) FU (List.getElem?_set_self hpl) k1.1 hm
  rw [List.set_set] at hl
  simp only [gvOb] at hl
  have e : (if g.last < g.most then g.last + 1 else 1) = idStep g.most g.last := rfl
  have hs : ∀ o, (st.set p o)[p]? = some o := fun o => List.getElem?_set_self hpl
  simp [hp, h.fl, hc, hG.o9, hG.o8, hG.o11, fok, fget, fput, e, sWhile, hl, hs]
  rfl
omit hR in
/-- one turn of the pump's loop -/
theorem pump_turn {c : Calls} {p a b q : Nat} {g : Gv} {t : Tid} {ts : List Tid} {st : St} {out : List Sn} {n : Int} (e2 e3 e4 e5 e6 : Option D)
    (h : GvI p a b g st) (s : g.Sm) (hw : g.wait = t :: ts) (hq : st[q]? = some (.ml (out.map Sn.d))) (hqa : q ≠ a) (hqb : q ≠ b) (ho : out.length ≤ 10000)
    (hn : c 55 [.ref p] ((st ++ [Ob.ml (ts.map Tid.d)]).set p (gvOb st.length b g)) = .ok (.int n) ((st ++ [Ob.ml (ts.map Tid.d)]).set p (gvOb st.length b { g with last := n }))) :
    ∃ st', PG.L_Giver_pump_2b G c [some (.ref p), some (.ref q), e2, e3, e4, e5, e6] st
      = .nx [some (.ref p), some (.ref q), some (.int n), some (.str t.n), some (.str t.b), some (.int t.g), some (.bl t.k)] st' ∧
      GvI p st.length b { g with last := n, wait := ts, fly := g.fly ++ [⟨n, t.g, some t⟩] } st' ∧ st'[q]? = some (.ml ((out ++ [Sn.say t false n]).map Sn.d)) ∧ Stp [p, b, q] st st' ∧ st.length < st'.length := by
  have hp := h.ob
  have hqp : q ≠ p := by rintro rfl; rw [hp] at hq; cases hq
  have hpl := get_lt h.ob
  have hbl := get_lt h.fl
  have hql := get_lt hq
  have hpa := h.pa
  have hpb := h.pb
  have hne := h.ne
  have hwt := h.wt
  rw [hw] at hwt
  have hfl := h.fl
  simp only [gvOb] at hp hn
  rw [List.set_append_left _ _ hpl, List.set_append_left _ _ hpl] at hn
  have hfl2 : g.fly.length < 16777216 := by have := s.f; omega
  have ho2 : out.length < 16777216 := by omega
  have d0 : ¬ st.length = p := by omega
  have d1 : ¬ st.length = b := by omega
  have d2 : ¬ st.length = q := by omega
  have d3 := Ne.symm hqp
  have d4 := Ne.symm hqb
  have d5 := Ne.symm hpb
  unfold PG.L_Giver_pump_2b PG.L_Giver_pump_2b_1 PG.L_Giver_pump_2b_2 PG.L_Giver_pump_2b_3 PG.L_Giver_pump_2b_4 PG.L_Giver_pump_2b_5
  refine ⟨(((st ++ [Ob.ml (ts.map Tid.d)]).set p (gvOb st.length b { g with last := n })).set b (.ml (g.fly.map Fly.d ++ [Fly.d ⟨n, t.g, some t⟩]))).set q (.ml (out.map Sn.d ++ [Sn.d (.say t false n)])), ?_, ⟨?_, ?_, ?_, by omega⟩, ?_, ⟨?_, ?_⟩, ?_⟩
  · simp [-getElem?_pos, hp, hwt, hfl, hq, hG.o10, hG.o11, hG.number, fok, fget, fput, oIx0_ref, Tid.d, gset, gapp, hpl, hbl, hql, hpb, hqp, hqb, d0, d1, d2, d3, d4, d5, hn, app1o, app3o, hfl2, ho2, gvOb, Fly.d, Sn.d, oTid, wSay]
  · simp [-getElem?_pos, gset, gapp, hpl, d3, d5, hqp, hqb, hpb, gvOb]
  · simp [-getElem?_pos, gset, gapp, hpl, d0, d1, d2, Ne.symm d0, Ne.symm d1, Ne.symm d2, d3, d5, hqp, hqb, hpb, gvOb]
  · simp [-getElem?_pos, gset, gapp, hpl, hbl, d3, d5, hqp, hqb, hpb, gvOb]
  · simp [-getElem?_pos, gset, gapp, hpl, hql, Nat.lt_succ_of_lt hql, d3, d5, hqp, hqb, hpb, gvOb]
  · intro j hj hn
    simp only [List.mem_cons, List.not_mem_nil, or_false, not_or] at hn
    simp [-getElem?_pos, gset, gapp, hj, Ne.symm hn.1, Ne.symm hn.2.1, Ne.symm hn.2.2]
  · simp
  · simp
/-- the pump's loop -/
theorem pump_loop (k : Nat) {p b q : Nat} : ∀ (ts : List Tid) (g : Gv) (a : Nat) (st : St) (out : List Sn) (fuel : Nat) (e2 e3 e4 e5 e6 : Option D), GvI p a b g st → g.Ok → g.Sm → g.wait = ts → st[q]? = some (.ml (out.map Sn.d)) → q ≠ a → q ≠ b → g.fly.length + ts.length ≤ 10000 → out.length + ts.length ≤ 10000 → ts.length < fuel →
    ∃ a' st' f2 f3 f4 f5 f6, wLoop (xAnd (xFld 32 (G.ok 10) 10 (xVar 0)) (xBin oLt (xB bLen (aCons (xFld 32 (G.ok 11) 11 (xVar 0)) (aNil))) (xFld 32 (G.ok 7) 7 (xVar 0)))) (PG.L_Giver_pump_2b G (R (k + 1))) fuel [some (.ref p), some (.ref q), e2, e3, e4, e5, e6] st
      = .nx [some (.ref p), some (.ref q), f2, f3, f4, f5, f6] st' ∧ GvI p a' b g.pump.1 st' ∧ (a' = a ∨ st.length ≤ a') ∧ st'[q]? = some (.ml ((out ++ g.pump.2).map Sn.d)) ∧ Stp [p, b, q] st st' := by
  intro ts
  induction ts with
  | nil =>
    intro g a st out fuel e2 e3 e4 e5 e6 h o s hw hq hqa hqb hl1 hl2 hf
    obtain ⟨fuel, rfl⟩ : ∃ m, fuel = m + 1 := ⟨fuel - 1, by omega⟩
    have hp := h.ob
    have hwt := h.wt
    have hfl := h.fl
    rw [hw] at hwt
    simp only [gvOb] at hp
    have e : g.pump = (g, []) := by unfold Gv.pump; rw [hw]; simp only [pumpL, ← hw]
    refine ⟨a, st, e2, e3, e4, e5, e6, ?_, by rw [e]; exact h, .inl rfl, by rw [e]; simpa using hq, Stp.refl _ _⟩
    unfold wLoop
    simp [-getElem?_pos, hp, hwt, hfl, hG.o10, hG.o11, hG.o7, fok, fget]
  | cons t ts ih =>
    intro g a st out fuel e2 e3 e4 e5 e6 h o s hw hq hqa hqb hl1 hl2 hf
    obtain ⟨fuel, rfl⟩ : ∃ m, fuel = m + 1 := ⟨fuel - 1, by omega⟩
    have hp := h.ob
    have hwt := h.wt
    have hfl := h.fl
    rw [hw] at hwt
    simp only [gvOb] at hp
    by_cases hlt : (g.fly.length : Int) < g.win
    · have k1 := newId_some (used := ids g.fly) o.l0 o.lm (by have := o.wm; simp [ids]; omega)
      have hpl := get_lt h.ob
      have hbl := get_lt h.fl
      have hql := get_lt hq
      have hpb := h.pb
      let g0 : Gv := { g with wait := ts }
      have h0 : GvI p st.length b g0 ((st ++ [Ob.ml (ts.map Tid.d)]).set p (gvOb st.length b g)) := by
        refine ⟨?_, ?_, ?_, by omega⟩
        · rw [List.getElem?_set_self (by simp; omega)]; rfl
        · rw [List.getElem?_set_ne (by omega), List.getElem?_append_right (Nat.le_refl _)]; simp [g0]
        · rw [List.getElem?_set_ne hpb, List.getElem?_append_left hbl]; exact h.fl
      have hn := number_ok hR hG k h0 ⟨o.w1, o.wm, o.l0, o.lm⟩ ⟨s.m, by have := s.w; rw [hw] at this; simp at this; show ts.length ≤ _; omega, s.f⟩ (by have := o.wm; show (g.fly.length : Int) < g.most; omega)
      rw [List.set_set] at hn
      obtain ⟨st1, x1, h1, hq1, t1, l1⟩ := pump_turn hG (c := R (k + 1)) e2 e3 e4 e5 e6 h s hw hq hqa hqb (by omega) hn
      have s1 : Gv.Sm { g with last := newId g.most (ids g.fly) g.last, wait := ts, fly := g.fly ++ [⟨newId g.most (ids g.fly) g.last, t.g, some t⟩] } :=
        ⟨s.m, by have := s.w; rw [hw] at this; simp at this; show ts.length ≤ _; omega, by simp at hl1 ⊢; omega⟩
      obtain ⟨a', st', f2, f3, f4, f5, f6, x2, h2, ha, hq2, t2⟩ := ih _ _ st1 _ fuel _ _ _ _ _ h1 ⟨o.w1, o.wm, (show (0 : Int) ≤ newId g.most (ids g.fly) g.last by omega), k1.2.2.2⟩ s1 rfl hq1 (by omega) hqb (by simp at hl1 ⊢; omega) (by simp at hl2 ⊢; omega) (by simp at hf; omega)
      have e : g.pump = ((Gv.pump { g with last := newId g.most (ids g.fly) g.last, wait := ts, fly := g.fly ++ [⟨newId g.most (ids g.fly) g.last, t.g, some t⟩] }).1, .say t false (newId g.most (ids g.fly) g.last) :: (Gv.pump { g with last := newId g.most (ids g.fly) g.last, wait := ts, fly := g.fly ++ [⟨newId g.most (ids g.fly) g.last, t.g, some t⟩] }).2) := by
        unfold Gv.pump; rw [hw]; simp only [pumpL]; rw [if_pos hlt]
      refine ⟨a', st', f2, f3, f4, f5, f6, ?_, by rw [e]; exact h2, .inr (by omega), ?_, t1.trans t2 (fun _ h => h) fun _ h => .inl h⟩
      · unfold wLoop
        simp [-getElem?_pos, hp, hwt, hfl, hG.o10, hG.o11, hG.o7, fok, fget, hlt]
        rw [x1]
        exact x2
      · rw [e]
        simpa using hq2
    · have e : g.pump = (g, []) := by
        unfold Gv.pump; rw [hw]; simp only [pumpL]; rw [if_neg hlt]; simp only [← hw]
      refine ⟨a, st, e2, e3, e4, e5, e6, ?_, by rw [e]; exact h, .inl rfl, by rw [e]; simpa using hq, Stp.refl _ _⟩
      unfold wLoop
      simp [-getElem?_pos, hp, hwt, hfl, hG.o10, hG.o11, hG.o7, fok, fget, hlt]
/-- what a giver's deed leaves: itself, all else but p, a, b as before -/
structure GvP (p a b : Nat) (g : Gv) (st st' : St) (a' b' : Nat) : Prop where
  i : GvI p a' b' g st'
  ha : a' = a ∨ st.length ≤ a'
  hb : b' = b ∨ st.length ≤ b'
  s : Stp [p, a, b] st st'
theorem pump_ok (k : Nat) {p a b : Nat} {g : Gv} {st : St} (h : GvI p a b g st) (o : g.Ok) (s : g.Sm) (hl : g.fly.length + g.wait.length ≤ 10000) :
    ∃ a' st', R (k + 2) 56 [.ref p] st = .ok (.lst (g.pump.2.map Sn.d)) st' ∧ GvP p a b g.pump.1 st st' a' b := by
  rw [PG.eq_Giver_pump hR (k + 1), ap_body (by rfl), PG.L_Giver_pump_eq]
  have hpl := get_lt h.ob
  have hal := get_lt h.wt
  have hbl := get_lt h.fl
  have h1 : GvI p a b g (st ++ [.ml []]) := h.stp (Stp.app [] st _) (by simp) (by simp) (by simp)
  obtain ⟨a', st', f2, f3, f4, f5, f6, x, h2, ha, hq, t⟩ := pump_loop hR hG k g.wait g a (st ++ [.ml []]) [] FU none none none none none h1 o s rfl (q := st.length) (by simp) (by omega) (by omega) hl (by have := s.w; simp; omega) (by have := s.w; show _ < 100000; omega)
  simp only [List.length_append, List.length_cons, List.length_nil] at ha
  have hqa : st.length ≠ a' := by omega
  refine ⟨a', st'.set st.length (.fz (g.pump.2.map Sn.d)), ?_, ⟨?_, by omega, .inl rfl, ?_⟩⟩
  · unfold PG.L_Giver_pump PG.L_Giver_pump_1 PG.L_Giver_pump_2 PG.L_Giver_pump_3
    simp [-getElem?_pos, sWhile]
    simp only [List.nil_append] at hq
    rw [x]
    simp [-getElem?_pos, hq]
  · exact h2.stp (Stp.set (F := [st.length]) (.fz (g.pump.2.map Sn.d)) List.mem_cons_self) (by simp; omega) (by simp; omega) (by simp; omega)
  · have z := ((Stp.app [p, a, b] st [.ml []]).trans t (F'' := [p, a, b]) (fun _ h => h) (by
      intro j hj
      simp only [List.mem_cons, List.not_mem_nil, or_false] at hj ⊢
      rcases hj with rfl | rfl | rfl <;> simp)).trans (Stp.set (F := [st.length]) (.fz (g.pump.2.map Sn.d)) List.mem_cons_self) (F'' := [p, a, b]) (fun _ h => h) (by simp)
    exact z
end
/-! ### saying, keeping -/
def bodyB (s : List Nat) : Bool := decide (s.length ≤ 300) && s.all okp
/-- what a tiding's look answers -/
def lookT (n b : List Nat) (g : Int) : Option Nat := if isNm n = true then (if 0 ≤ g ∧ g ≤ 2 then (if bodyB b = true then none else some 2) else some 1) else some 1
def LookTF (F : FF) : Prop := ∀ (n b : List Nat) (g : Int) (kp : Bool) (st : St), n.length ≤ 16777000 → b.length ≤ 16777000 → F [.str n, .str b, .int g, .bl kp] st = match lookT n b g with
  | none => .ok .non st
  | some c => .exn c st
section
variable {G : PG.G} {R : Nat → Calls} (hR : PG.Run G R)
include hR
theorem s_is_level (k : Nat) : LvF (R (k + 1) 0) := by rw [PG.eq_is_level hR k]; exact g_lv
theorem s_look_name (k : Nat) : LookNameF (R (k + 2) 1) := by rw [PG.eq_look_name hR (k + 1)]; exact g_look_name (s_is_level hR k)
theorem s_look_wish (k : Nat) : LookWishF (R (k + 2) 2) := by rw [PG.eq_look_wish hR (k + 1)]; exact g_look_wish (s_is_level hR k)
theorem s_look_grade (k : Nat) (g : Int) (st : St) : R (k + 1) 4 [.int g] st = if 0 ≤ g ∧ g ≤ 2 then .ok .non st else .exn 1 st := by
  rw [PG.eq_look_grade hR k, ap_body (by rfl)]
  unfold PG.B_look_grade
  by_cases h1 : 0 ≤ g <;> by_cases h2 : g ≤ 2 <;> simp [h1, h2]
theorem s_must (k : Nat) (b : Bool) (st : St) : R (k + 1) 25 [.bl b] st = if b = true then .ok .non st else .exn 2 st := by
  rw [PG.eq_must hR k, ap_body (by rfl)]
  unfold PG.B_must
  cases b <;> simp
theorem s_is_body (k : Nat) (s : List Nat) (hs : s.length ≤ 16777000) (st : St) : R (k + 1) 26 [.str s] st = .ok (.bl (bodyB s)) st := by
  rw [PG.eq_is_body hR k, ap_body (by rfl)]
  unfold PG.B_is_body
  have hs' : s.length ≤ 16777216 := by omega
  simp [bLen_str hs', wk_str hs']
  rw [cData_map (g := fun c : Nat => D.bl (okp c)) (h := ?h) (hl := by simp; omega)]
  case h =>
    intro a _
    refine ⟨_, put_name _ _ _ _, ?_⟩
    simp
    unfold okp
    rw [Bool.eq_iff_iff]; simp; omega
  have e : decide ((s.length : Int) ≤ 300) = decide (s.length ≤ 300) := by
    rw [Bool.eq_iff_iff]; simp; omega
  simp [bodyB, e]
theorem s_look_tiding (k : Nat) : LookTF (R (k + 3) 28) := by
  intro n b g kp st hn hb
  rw [PG.eq_look_tiding hR (k + 2), ap_body (by rfl)]
  unfold PG.B_look_tiding
  have e1 := s_look_name hR k n st hn
  have e2 := fun st => s_look_grade hR (k + 1) g st
  have e3 := fun st => s_is_body hR (k + 1) b hb st
  have e4 := fun b st => s_must hR (k + 1) b st
  have hk : ∀ st, oIn (.bl kp) (.tup [.bl true, .bl false]) st = some (.bl true) := fun st => by
    rw [oIn_tup rfl rfl]; cases kp <;> rfl
  unfold lookT
  by_cases h1 : isNm n = true
  · rw [if_pos h1] at e1 ⊢
    by_cases h2 : 0 ≤ g ∧ g ≤ 2
    · have e2 := fun st => (e2 st).trans (if_pos h2)
      rw [if_pos h2]
      cases h3 : bodyB b with
      | true => simp [e1, e2, e3, h3, hk, e4]
      | false => simp [e1, e2, e3, h3, e4]
    · have e2 := fun st => (e2 st).trans (if_neg h2)
      rw [if_neg h2]
      simp [e1, e2]
  · rw [if_neg h1] at e1 ⊢
    simp [e1]
end
end TH.Q
end
section
set_option linter.all false
set_option autoImplicit false
/-! TS2: the giver's deeds. Plain Lean. -/
namespace TH.Q
open TH
theorem keep_len' (g : Gv) (t : Tid) : (g.keep t).wait.length ≤ g.wait.length + 1 ∧ (g.keep t).fly = g.fly ∧ (g.keep t).most = g.most ∧ (g.keep t).win = g.win := by
  unfold Gv.keep; split <;> simp
def Tid.args (t : Tid) : List D := [.str t.n, .str t.b, .int t.g, .bl t.k]
def Tid.look (t : Tid) : Option Nat := lookT t.n t.b t.g
structure Tid.Lim (t : Tid) : Prop where
  n : t.n.length ≤ 16777000
  b : t.b.length ≤ 16777000
theorem GvP.refl {p a b : Nat} {g : Gv} {st : St} (h : GvI p a b g st) : GvP p a b g st st a b := ⟨h, .inl rfl, .inl rfl, Stp.refl _ _⟩
theorem GvP.trans {p a b a1 b1 a2 b2 : Nat} {g1 g2 : Gv} {st st1 st2 : St} (h : GvP p a b g1 st st1 a1 b1) (h' : GvP p a1 b1 g2 st1 st2 a2 b2) : GvP p a b g2 st st2 a2 b2 := by
  have l := h.s.len
  refine ⟨h'.i, ?_, ?_, h.s.trans h'.s (fun _ h => h) fun j hj => ?_⟩
  · have := h.ha; have := h'.ha; omega
  · have := h.hb; have := h'.hb; omega
  · have := h.ha; have := h.hb
    simp only [List.mem_cons, List.not_mem_nil, or_false] at hj ⊢
    omega
theorem nd_new {l1 l2 : List Nat} {x x' N : Nat} (nd : (l1 ++ x :: l2).Nodup) (lt : ∀ y ∈ l1 ++ x :: l2, y < N) (h : x' = x ∨ N ≤ x') : (l1 ++ x' :: l2).Nodup := by
  rcases h with rfl | h
  · exact nd
  · rw [List.nodup_append, List.nodup_cons] at nd ⊢
    have h1 : ∀ y ∈ l1, y < N := fun y hy => lt y (List.mem_append_left _ hy)
    have h2 : ∀ y ∈ l2, y < N := fun y hy => lt y (List.mem_append_right _ (List.mem_cons_of_mem _ hy))
    refine ⟨nd.1, ⟨fun z => by have := h2 _ z; omega, nd.2.1.2⟩, fun y hy z hz => ?_⟩
    rcases List.mem_cons.mp hz with rfl | hz
    · have := h1 y hy; omega
    · exact nd.2.2 y hy z (List.mem_cons_of_mem _ hz)
section
variable {G : PG.G} {R : Nat → Calls} (hR : PG.Run G R) (hG : HasGv G)
include hR hG
theorem keep_bad (k : Nat) {t : Tid} (tl : t.Lim) {c : Nat} (hc : t.look = some c) (p : Nat) (st : St) : R (k + 4) 57 (.ref p :: t.args) st = .exn c st := by
  rw [PG.eq_Giver_keep hR (k + 3), ap_body (by rfl)]
  have e := s_look_tiding hR k t.n t.b t.g t.k st tl.n tl.b
  unfold Tid.look at hc
  rw [hc] at e
  unfold PG.B_Giver_keep
  simp [Tid.args, e]
theorem keep_ok (k : Nat) {t : Tid} (tl : t.Lim) (ht : t.look = none) {p a b : Nat} {g : Gv} {st : St} (h : GvI p a b g st) (s : g.Sm) :
    ∃ st', R (k + 4) 57 (.ref p :: t.args) st = .ok .non st' ∧ GvP p a b (g.keep t) st st' a b := by
  rw [PG.eq_Giver_keep hR (k + 3), ap_body (by rfl)]
  have e := s_look_tiding hR k t.n t.b t.g t.k st tl.n tl.b
  unfold Tid.look at ht
  rw [ht] at e
  unfold PG.B_Giver_keep Gv.keep
  have hp := h.ob
  simp only [gvOb] at hp
  by_cases hg : t.g > 0
  · rw [if_pos hg]
    have ha := get_lt h.wt
    refine ⟨st.set a (.ml (g.wait.map Tid.d ++ [t.d])), ?_, ⟨⟨?_, ?_, ?_, h.ne⟩, .inl rfl, .inl rfl, Stp.set _ (by simp)⟩⟩
    · have hw : g.wait.length < 16777216 := by have := s.w; omega
      simp [-getElem?_pos, Tid.args, e, hg, hp, h.wt, hG.o10, fok, fget, app1o, app3o, hw, Tid.d]
    · rw [gset, if_neg (Ne.symm h.pa)]; exact h.ob
    · rw [gset, if_pos rfl, if_pos ha]; simp
    · rw [gset, if_neg h.ne]; exact h.fl
  · rw [if_neg hg]
    refine ⟨st, ?_, GvP.refl h⟩
    simp [Tid.args, e, hg]
theorem say_bad (k : Nat) {t : Tid} (tl : t.Lim) {c : Nat} (hc : t.look = some c) (p : Nat) (st : St) : R (k + 4) 58 (.ref p :: t.args) st = .exn c st := by
  rw [PG.eq_Giver_say hR (k + 3), ap_body (by rfl)]
  have e := s_look_tiding hR k t.n t.b t.g t.k st tl.n tl.b
  unfold Tid.look at hc
  rw [hc] at e
  unfold PG.B_Giver_say
  simp [Tid.args, e]
theorem keep_len (g : Gv) (t : Tid) : (g.keep t).wait.length ≤ g.wait.length + 1 ∧ (g.keep t).fly = g.fly ∧ (g.keep t).most = g.most := by
  unfold Gv.keep; split <;> simp
theorem say_ok (k : Nat) {t : Tid} (tl : t.Lim) (ht : t.look = none) {p a b : Nat} {g : Gv} {st : St} (h : GvI p a b g st) (o : g.Ok) (s : g.Sm) (hl : g.fly.length + g.wait.length < 10000) :
    ∃ a' st', R (k + 5) 58 (.ref p :: t.args) st = .ok (.lst ((g.say t).2.map Sn.d)) st' ∧ GvP p a b (g.say t).1 st st' a' b := by
  rw [PG.eq_Giver_say hR (k + 4), ap_body (by rfl)]
  have ht' := ht
  unfold Tid.look at ht'
  have e : ∀ st, R (k + 4) 28 [.str t.n, .str t.b, .int t.g, .bl t.k] st = .ok .non st := fun st => by
    have e := s_look_tiding hR (k + 1) t.n t.b t.g t.k st tl.n tl.b
    rw [ht'] at e; exact e
  unfold PG.B_Giver_say Gv.say
  by_cases hg : t.g = 0
  · rw [if_pos hg]
    refine ⟨a, st, ?_, GvP.refl h⟩
    rw [hg] at e
    simp [Tid.args, e, hg, Sn.d, wSay]
  · rw [if_neg hg]
    obtain ⟨st1, x1, h1⟩ := keep_ok hR hG k tl ht h s
    have kl := keep_len hR hG g t
    obtain ⟨a', st2, x2, h2⟩ := pump_ok hR hG (k + 2) h1.i (o.keep t) ⟨by rw [kl.2.2]; exact s.m, by omega, by rw [kl.2.1]; exact s.f⟩ (by rw [kl.2.1]; omega)
    refine ⟨a', st2, ?_, h1.trans h2⟩
    have hp := h.ob
    have hp1 := h1.i.ob
    simp only [gvOb] at hp hp1
    simp only [Tid.args] at x1
    simp [-getElem?_pos, Tid.args, e, hg, hp, hG.keep, hG.pump, fok, x1, hp1, x2]
theorem place_ok (k : Nat) (i gr : Int) {p a b : Nat} {g : Gv} {st : St} (h : GvI p a b g st) (s : g.Sm) :
    R (k + 1) 59 [.ref p, .int i, .int gr] st = .ok (match g.place i gr with | some j => .int (j : Nat) | none => .non) st := by
  rw [PG.eq_Giver_place_of hR k, ap_body (by rfl)]
  unfold PG.B_Giver_place_of
  have hp := h.ob
  simp only [gvOb] at hp
  have hr : rng1 (.int (g.fly.length : Int)) st = .ok (.data ((List.range g.fly.length).map fun (k : Nat) => D.int (k : Int))) st := rng1_ok (by have := s.f; omega)
  let P : Nat → Bool := fun j => match g.fly[j]? with | some f => f.i == i && f.g == gr | none => false
  have hf : ((List.range g.fly.length).filter P).head? = g.place i gr := by
    rw [List.head?_filter]
    unfold Gv.place
    cases e : g.fly.findIdx? fun f => f.i == i && f.g == gr with
    | some j =>
      rw [List.findIdx?_eq_some_iff_getElem] at e
      obtain ⟨hj, e1, e2⟩ := e
      rw [List.find?_range_eq_some]
      refine ⟨by simp only [P]; rw [List.getElem?_eq_getElem hj]; exact e1, List.mem_range.mpr hj, fun m hm => ?_⟩
      have := e2 m hm
      simp only [P]
      rw [List.getElem?_eq_getElem (by omega)]
      cases hh : (g.fly[m].i == i && g.fly[m].g == gr) with
      | false => simp [hh]
      | true => rw [hh] at this; simp at this
    | none =>
      rw [List.findIdx?_eq_none_iff] at e
      rw [List.find?_eq_none]
      intro j hj
      have hj := List.mem_range.mp hj
      simp only [P]
      rw [List.getElem?_eq_getElem hj]
      have := e g.fly[j] (List.getElem_mem _)
      simpa using this
  have hc : cData (.name 4) (some (xBin oEq (xSl (xBin oIx (xFld 32 (G.ok 11) 11 (xVar 0)) (xVar 4)) none (some (xC (.int 2)))) (xTup (aCons (xVar 1) (aCons (xVar 2) (aNil)))))) (xVar 4) [some (.ref p), some (.int i), some (.int gr), none, none] ((List.range g.fly.length).map fun (k : Nat) => D.int (k : Int)) [] st
      = .ok (([] : List D) ++ ((List.range g.fly.length).filter P).map fun (k : Nat) => D.int (k : Int)) st := by
    refine cData_filter (fun (k : Nat) => D.int (k : Int)) (fun (k : Nat) => D.int (k : Int)) P _ _ (fun j hj => ⟨_, put_name _ _ _ _, ⟨.bl (P j), ?_, rfl⟩, fun _ => by simp⟩) (by have := s.f; simp; omega)
    have hj := List.mem_range.mp hj
    have hx : oIx (.ref b) (.int (j : Int)) st = some (g.fly[j].d) := by
      rw [oIx_ref (l := g.fly.map Fly.d) (by rw [h.fl]; rfl), oIx_lst]; simp [List.getElem?_eq_getElem hj]
    have hq : ∀ x y : Int, oEq (.tup [.int x, .int y]) (.tup [.int i, .int gr]) st = some (.bl (x == i && y == gr)) := fun x y => by
      show (eqD _ _).map D.bl = _
      rw [asD_tup, asD_tup, oEq_pu (st := st) rfl rfl]
      simp [D.eqv, D.eqvL]
    simp [-getElem?_pos, hp, hG.o11, fok, fget, hx, Fly.d, hq]
    simp [P, List.getElem?_eq_getElem hj]
  simp [-getElem?_pos, hp, h.fl, hG.o11, fok, fget, hr]
  simp only [List.nil_append] at hc
  rw [hc]
  cases hfl : (List.range g.fly.length).filter P with
  | nil =>
    rw [hfl] at hf
    rw [← hf]
    simp
  | cons j js =>
    rw [hfl] at hf
    rw [← hf]
    simp
end
inductive Ans where
  | got
  | held
  | done
  deriving DecidableEq
def Ans.s : Ans → List Nat
  | .got => wGot
  | .held => wHeld
  | .done => wDone
def Gv.took (g : Gv) : Ans → Int → Gv × List Sn
  | .got, i => g.over i 1
  | .held, i => g.held i
  | .done, i => g.over i 3
def ansD (w : Ans) (i : Int) : D := .tup [.str w.s, .int i]
theorem stl2o {n : Nat} {i : Int} {y : D} {env : Env} {st : St} {l : List D} (h : st[n]? = some (.ml l)) : stl2 y (.ref n) env (.int i) st = stl3 (ixN l.length i) l n y env st := stl2_ok h
theorem place_lt {g : Gv} {i gr : Int} {j : Nat} (h : g.place i gr = some j) : ∃ hj : j < g.fly.length, g.fly[j].i = i ∧ g.fly[j].g = gr := by
  unfold Gv.place at h
  rw [List.findIdx?_eq_some_iff_getElem] at h
  obtain ⟨hj, e, _⟩ := h
  exact ⟨hj, by simpa using e⟩
section
variable {G : PG.G} {R : Nat → Calls} (hR : PG.Run G R) (hG : HasGv G)
include hR hG
theorem over_ok (k : Nat) (w : List Nat) (i gr : Int) (hw : (w = wGot ∧ gr = 1) ∨ (w = wDone ∧ gr = 3)) {p a b : Nat} {g : Gv} {st : St} (h : GvI p a b g st) (o : g.Ok) (s : g.Sm) (hl : g.fly.length + g.wait.length ≤ 10000) :
    ∃ a' b' st', R (k + 3) 60 [.ref p, .tup [.str w, .int i]] st = .ok (.lst ((g.over i gr).2.map Sn.d)) st' ∧ GvP p a b (g.over i gr).1 st st' a' b' := by
  rw [PG.eq_Giver_took hR (k + 2), ap_body (by rfl)]
  unfold PG.B_Giver_took
  have hp := h.ob
  simp only [gvOb] at hp
  have e := place_ok hR hG (k + 1) i gr h s
  have hwh : (w == [104, 101, 108, 100]) = false := by rcases hw with ⟨rfl, _⟩ | ⟨rfl, _⟩ <;> rfl
  have hwg : (if w = [103, 111, 116] then (1 : Int) else 3) = gr := by rcases hw with ⟨rfl, rfl⟩ | ⟨rfl, rfl⟩ <;> rfl
  unfold Gv.over
  cases ep : g.place i gr with
  | none =>
    rw [ep] at e
    simp only at e
    refine ⟨a, b, st, ?_, GvP.refl h⟩
    simp [-getElem?_pos, hwh, hwg, hp, hG.place, fok, e]
  | some j =>
    rw [ep] at e
    simp only at e
    obtain ⟨hj, _, _⟩ := place_lt ep
    have hpl := get_lt h.ob
    have hbl := get_lt h.fl
    have hal := get_lt h.wt
    let g1 : Gv := { g with fly := g.fly.eraseIdx j }
    have h1 : GvI p a st.length g1 ((st ++ [Ob.ml (g1.fly.map Fly.d)]).set p (gvOb a st.length g1)) := by
      refine ⟨?_, ?_, ?_, by omega⟩
      · rw [List.getElem?_set_self (by simp; omega)]
      · rw [List.getElem?_set_ne h.pa, List.getElem?_append_left hal]; exact h.wt
      · rw [List.getElem?_set_ne (by omega), List.getElem?_append_right (Nat.le_refl _)]; simp
    have el : (g.fly.eraseIdx j).length ≤ g.fly.length := List.length_eraseIdx_le _ _
    obtain ⟨a', st', x, h2⟩ := pump_ok hR hG k h1 ⟨o.w1, o.wm, o.l0, o.lm⟩ ⟨s.m, s.w, by have := s.f; show (g.fly.eraseIdx j).length ≤ _; omega⟩ (by show (g.fly.eraseIdx j).length + g.wait.length ≤ _; omega)
    have hp1 := h1.ob
    have c1 : ∀ l : List D, cut l (some ((j : Int) + 1)) none = l.drop (j + 1) := fun l => cut_drop l (j + 1)
    have c2 : cat3 (some ((g.fly.map Fly.d).take j)) (some ((g.fly.map Fly.d).drop (j + 1))) st = .ok ((g.fly.eraseIdx j).map Fly.d) st := by
      rw [cat3_ok (by have := s.f; simp; omega), List.eraseIdx_eq_take_drop_succ]; simp
    have hs : (st ++ [Ob.ml (g1.fly.map Fly.d)]).set p (gvOb a st.length g1) = st.set p (gvOb a st.length g1) ++ [Ob.ml (g1.fly.map Fly.d)] := List.set_append_left _ _ hpl
    rw [hs] at x hp1
    refine ⟨a', st.length, st', ?_, ?_⟩
    · simp only [gvOb, g1] at x hp1
      simp [-getElem?_pos, hwh, hwg, hp, h.fl, hG.place, hG.pump, hG.o11, fok, fget, fput, e, c1, c2, gapp, hpl]
      rw [x]
      simp
    · refine ⟨h2.i, ?_, .inr (Nat.le_refl _), ?_⟩
      · have := h2.ha; simp at this; omega
      · have t1 : Stp [p, a, b] st ((st ++ [Ob.ml (g1.fly.map Fly.d)]).set p (gvOb a st.length g1)) := (Stp.app [] st _).trans (Stp.set (F := [p]) _ (by simp)) (by simp) (by simp)
        refine t1.trans h2.s (fun _ h => h) fun j hj => ?_
        simp only [List.mem_cons, List.not_mem_nil, or_false] at hj ⊢
        omega
theorem held_ok (k : Nat) (i : Int) {p a b : Nat} {g : Gv} {st : St} (h : GvI p a b g st) (s : g.Sm) :
    ∃ st', R (k + 2) 60 [.ref p, .tup [.str wHeld, .int i]] st = .ok (.lst ((g.held i).2.map Sn.d)) st' ∧ GvP p a b (g.held i).1 st st' a b := by
  rw [PG.eq_Giver_took hR (k + 1), ap_body (by rfl)]
  unfold PG.B_Giver_took
  have hp := h.ob
  simp only [gvOb] at hp
  have e := place_ok hR hG k i 2 h s
  have e3 := place_ok hR hG k i 3 h s
  unfold Gv.held
  cases ep : g.place i 2 with
  | none =>
    rw [ep] at e
    simp only at e
    refine ⟨st, ?_, GvP.refl h⟩
    cases e4 : g.place i 3 with
    | none =>
      rw [e4] at e3
      simp only at e3
      simp [-getElem?_pos, wHeld, hp, hG.place, fok, e, e3]
    | some j =>
      rw [e4] at e3
      simp only at e3
      simp [-getElem?_pos, wHeld, hp, hG.place, fok, e, e3, Sn.d, wFree]
  | some j =>
    rw [ep] at e
    simp only at e
    obtain ⟨hj, _, _⟩ := place_lt ep
    have hbl := get_lt h.fl
    refine ⟨st.set b (.ml ((g.fly.set j ⟨i, 3, none⟩).map Fly.d)), ?_, ⟨⟨?_, ?_, ?_, h.ne⟩, .inl rfl, .inl rfl, Stp.set _ (by simp)⟩⟩
    · simp [-getElem?_pos, wHeld, hp, h.fl, hG.place, hG.o11, fok, fget, e, stl2o h.fl, ixN_nat, hj, Sn.d, wFree, List.map_set, Fly.d, oTid]
    · rw [gset, if_neg (Ne.symm h.pb)]; exact h.ob
    · rw [gset, if_neg (Ne.symm h.ne)]; exact h.wt
    · rw [gset, if_pos rfl, if_pos hbl]
theorem took_ok (k : Nat) (w : Ans) (i : Int) {p a b : Nat} {g : Gv} {st : St} (h : GvI p a b g st) (o : g.Ok) (s : g.Sm) (hl : g.fly.length + g.wait.length ≤ 10000) :
    ∃ a' b' st', R (k + 3) 60 [.ref p, ansD w i] st = .ok (.lst ((g.took w i).2.map Sn.d)) st' ∧ GvP p a b (g.took w i).1 st st' a' b' := by
  cases w with
  | got => exact over_ok hR hG k _ i 1 (.inl ⟨rfl, rfl⟩) h o s hl
  | done => exact over_ok hR hG k _ i 3 (.inr ⟨rfl, rfl⟩) h o s hl
  | held => exact ⟨a, b, held_ok hR hG (k + 1) i h s⟩
omit hR hG in
theorem fObj_list {t : Tg} {b : SM} {n : Nat} {l : List D} (I : Nat → Env → St → Prop) (hm : ∀ k env st, I k env st → st[n]? = some (.ml l))
    (h : ∀ (i : Nat) (hi : i < l.length) env st, I i env st → ∃ env1 env2 st', t.put l[i] env st = some env1 ∧ b env1 st = .nx env2 st' ∧ I (i + 1) env2 st') :
    ∀ (m i : Nat) (env : Env) (st : St) (fuel : Nat), i + m = l.length → m < fuel → I i env st → ∃ env' st', fObj t b n fuel i env st = .nx env' st' ∧ I l.length env' st'
  | 0, i, env, st, 0, _, hf, _ => by omega
  | 0, i, env, st, fuel + 1, hi, hf, I0 => by
    refine ⟨env, st, ?_, by rw [← hi]; exact I0⟩
    unfold fObj
    rw [hm _ _ _ I0]
    have : l[i]? = none := by simp; omega
    simp only [this]
  | m + 1, i, env, st, 0, hi, hf, I0 => by omega
  | m + 1, i, env, st, fuel + 1, hi, hf, I0 => by
    obtain ⟨env1, env2, st', h1, h2, h3⟩ := h i (by omega) env st I0
    obtain ⟨env', st'', h4, h5⟩ := fObj_list I hm h m (i + 1) env2 st' fuel (by omega) (by omega) h3
    refine ⟨env', st'', ?_, h5⟩
    unfold fObj
    have hd : l[i]? = some (l[i]'(by omega)) := List.getElem?_eq_getElem (by omega)
    rw [hm _ _ _ I0]
    simp only [hd, h1, h2]
    exact h4
theorem again_ok (k : Nat) {p a b : Nat} {g : Gv} {st : St} (h : GvI p a b g st) (o : g.Ok) (s : g.Sm) (hl : g.fly.length + g.wait.length ≤ 10000) :
    ∃ a' r st', R (k + 3) 61 [.ref p] st = .ok (.ref r) st' ∧ st'[r]? = some (.ml (g.again.2.map Sn.d)) ∧ st.length ≤ r ∧ r ≠ a' ∧ GvP p a b g.again.1 st st' a' b := by
  rw [PG.eq_Giver_again hR (k + 2), ap_body (by rfl), PG.L_Giver_again_eq]
  unfold PG.L_Giver_again PG.L_Giver_again_1 PG.L_Giver_again_2 PG.L_Giver_again_3
  have hp := h.ob
  simp only [gvOb] at hp
  have hpl := get_lt h.ob
  have hal := get_lt h.wt
  have hbl := get_lt h.fl
  -- the loop
  let q := st.length
  let I : Nat → Env → St → Prop := fun i env st' => ∃ e2 e3 e4, env = [some (.ref p), some (.ref q), e2, e3, e4] ∧ st' = st ++ [.ml (((g.fly.take i).map Fly.again).map Sn.d)]
  have hq : ∀ l : List D, (st ++ [Ob.ml l])[q]? = some (.ml l) := fun l => by simp [q]
  obtain ⟨env', st', x, e2, e3, e4, rfl, rfl⟩ := fObj_list (t := .tup [2, 3, 4]) (b := PG.L_Giver_again_2b G (R (k + 2))) (n := b) (l := g.fly.map Fly.d) I
    (fun k env st' ⟨_, _, _, _, e⟩ => by rw [e, List.getElem?_append_left hbl]; exact h.fl)
    (by
      rintro i hi env st' ⟨e2, e3, e4, rfl, rfl⟩
      have hi' : i < g.fly.length := by simpa using hi
      have hsq : ∀ (l l' : List D), (st ++ [Ob.ml l]).set q (.ml l') = st ++ [Ob.ml l'] := fun l l' => by
        rw [List.set_append_right _ _ (Nat.le_refl _)]; simp [q]
      have ht : (g.fly.take (i + 1)).map Fly.again = (g.fly.take i).map Fly.again ++ [(g.fly[i]).again] := by
        rw [List.take_succ_eq_append_getElem hi', List.map_append]; rfl
      have ll : (((g.fly.take i).map Fly.again).map Sn.d).length < 16777216 := by have := s.f; simp; omega
      have step : ∀ acc : List D, acc.length < 16777216 → PG.L_Giver_again_2b G (R (k + 2)) [some (.ref p), some (.ref q), some (.int g.fly[i].i), some (.int g.fly[i].g), some (oTid g.fly[i].t)] (st ++ [.ml acc]) = .nx [some (.ref p), some (.ref q), some (.int g.fly[i].i), some (.int g.fly[i].g), some (oTid g.fly[i].t)] (st ++ [.ml (acc ++ [g.fly[i].again.d])]) := by
        intro acc ll
        unfold PG.L_Giver_again_2b PG.L_Giver_again_2b_1
        have a1 := fun (g' : EM) (env : Env) => app1_ok (g := g') (env := env) (hq acc)
        have a3 := fun (y : D) => (congrArg (fun o => app3 o q y (st ++ [Ob.ml acc])) (hq acc)).trans (app3o ll)
        simp only [hsq] at a3
        cases et : g.fly[i].t with
        | none =>
          simp [-getElem?_pos, oTid, a1, a3, Fly.again, et, Sn.d, wFree]
        | some t =>
          have ad : ∀ s : St, oAdd (.tup [.str [115, 97, 121]]) (.tup [.str t.n, .str t.b, .int t.g, .bl t.k]) s = some (.tup ([.str [115, 97, 121]] ++ [.str t.n, .str t.b, .int t.g, .bl t.k])) := fun s => oAdd_tup (by simp) rfl
          have ad2 : ∀ (x y : D) (s : St), oAdd (.tup [.str [115, 97, 121], .str t.n, .str t.b, .int t.g, .bl t.k]) (.tup [x, y]) s = some (.tup ([.str [115, 97, 121], .str t.n, .str t.b, .int t.g, .bl t.k] ++ [x, y])) := fun _ _ s => oAdd_tup (by simp) rfl
          simp [-getElem?_pos, oTid, a1, a3, Fly.again, et, Sn.d, wSay, Tid.d, ad, ad2]
      refine ⟨[some (.ref p), some (.ref q), some (.int g.fly[i].i), some (.int g.fly[i].g), some (oTid g.fly[i].t)], [some (.ref p), some (.ref q), some (.int g.fly[i].i), some (.int g.fly[i].g), some (oTid g.fly[i].t)], st ++ [.ml (((g.fly.take (i + 1)).map Fly.again).map Sn.d)], ?_, ?_, ⟨_, _, _, rfl, rfl⟩⟩
      · simp [Fly.d]
      · rw [step _ ll, ht, List.map_append (l₂ := [_])]; rfl)
    g.fly.length 0 [some (.ref p), some (.ref q), none, none, none] (st ++ [.ml []]) FU (by simp) (by have := s.f; show _ < 100000; omega) ⟨none, none, none, rfl, rfl⟩
  simp only [List.length_map, List.take_length] at x
  -- the rest
  have h1 : GvI p a b g (st ++ [.ml ((g.fly.map Fly.again).map Sn.d)]) := h.stp (Stp.app [] st _) (by simp) (by simp) (by simp)
  obtain ⟨a', st2, y, h2⟩ := pump_ok hR hG k h1 o s hl
  have l2 := h2.s.len
  simp only [List.length_append, List.length_cons, List.length_nil] at l2
  have hq2 : st2[q]? = some (.ml ((g.fly.map Fly.again).map Sn.d)) := h2.s.get (hq _) (by simp [q]; omega)
  have ha' := h2.ha
  simp only [List.length_append, List.length_cons, List.length_nil] at ha'
  have hwf := pumpL_wait (win := g.win) (most := g.most) g.wait g.last g.fly
  have hout : ∀ (ts : List Tid) (l : Int) (fs : List Fly), (pumpL g.win g.most ts l fs).out.length ≤ ts.length := by
    intro ts
    induction ts with
    | nil => intro l fs; simp [pumpL]
    | cons t ts ih => intro l fs; unfold pumpL; split <;> simp [ih]
  have hol : g.pump.2.length ≤ 10000 := by
    have := hout g.wait g.last g.fly
    have := s.w
    show (pumpL g.win g.most g.wait g.last g.fly).out.length ≤ _; omega
  have c1 : ∀ st, cat3 (some ((g.fly.map Fly.again).map Sn.d)) (some (g.pump.2.map Sn.d)) st = .ok (g.again.2.map Sn.d) st := fun st => by
    rw [cat3_ok (by have := s.f; simp; omega)]; simp [Gv.again]
  have hpa2 : (st ++ [Ob.ml ((g.fly.map Fly.again).map Sn.d)])[p]? = some (gvOb a b g) := h1.ob
  simp only [gvOb] at hpa2
  have hpl2 := get_lt h2.i.ob
  have hal2 := get_lt h2.i.wt
  have hbl2 := get_lt h2.i.fl
  refine ⟨a', st2.length, st2 ++ [.ml (g.again.2.map Sn.d)], ?_, by simp, by omega, by omega, ?_, ?_, .inl rfl, ?_⟩
  · simp [-getElem?_pos, hp, h.fl, hG.o11, fok, fget, gapp, hbl, hpl]
    have x' := x
    simp only [q] at x'
    rw [x']
    simp [-getElem?_pos]
    simp only [q] at hq2 y
    have hpa3 : (st ++ [Ob.ml (g.fly.map (Sn.d ∘ Fly.again))])[p]? = some (.ins 14 [(7, D.int g.win), (8, D.int g.most), (9, D.int g.last), (10, D.ref a), (11, D.ref b)]) := by
      rw [← hpa2]; simp
    rw [List.map_map] at y hq2
    rw [hpa3]
    simp [-getElem?_pos, hG.pump, fok, y, hq2]
    rw [List.map_map] at c1
    rw [c1]
    simp
  · exact h2.i.stp (Stp.app [] st2 _) (by simp) (by simp) (by simp)
  · omega
  · exact ((Stp.app [p, a, b] st _).trans h2.s (fun _ h => h) fun j hj => .inl hj).trans (Stp.app [p, a, b] st2 _) (fun _ h => h) fun j hj => .inl hj
theorem many_ok (k : Nat) {p a b : Nat} {g : Gv} {st : St} (h : GvI p a b g st) :
    R (k + 1) 62 [.ref p] st = .ok (.tup [.int g.fly.length, .int g.wait.length]) st := by
  rw [PG.eq_Giver_many hR k, ap_body (by rfl)]
  unfold PG.B_Giver_many
  have hp := h.ob
  simp only [gvOb] at hp
  simp [-getElem?_pos, hp, h.fl, h.wt, hG.o10, hG.o11, fok, fget]
omit hG in
theorem look_ends_ok (k : Nat) (w m : Int) (st : St) : R (k + 1) 53 [.int w, .int m] st = if 1 ≤ w ∧ w ≤ 20 ∧ w ≤ m ∧ m ≤ 65535 then .ok .non st else .exn 4 st := by
  rw [PG.eq_look_ends hR k, ap_body (by rfl)]
  unfold PG.B_look_ends
  by_cases h1 : 1 ≤ w <;> by_cases h2 : w ≤ 20 <;> by_cases h3 : w ≤ m <;> by_cases h4 : m ≤ 65535 <;> simp [h1, h2, h3, h4]
def gvNew (w m : Int) : Gv := ⟨w, m, 0, [], []⟩
theorem init_ok (k : Nat) (w m : Int) (hw : 1 ≤ w ∧ w ≤ 20 ∧ w ≤ m ∧ m ≤ 65535) {p : Nat} {st : St} (hp : st[p]? = some (.ins 14 [])) :
    ∃ st', R (k + 2) 54 [.ref p, .int w, .int m] st = .ok .non st' ∧ GvI p st.length (st.length + 1) (gvNew w m) st' ∧ Stp [p] st st' ∧ st'.length = st.length + 2 := by
  rw [PG.eq_Giver___init__ hR (k + 1), ap_body (by rfl)]
  unfold PG.B_Giver___init__
  have e := fun st => (look_ends_ok hR k w m st).trans (if_pos hw)
  have hpl := get_lt hp
  refine ⟨(st ++ [Ob.ml []] ++ [Ob.ml []]).set p (gvOb st.length (st.length + 1) (gvNew w m)), ?_, ⟨?_, ?_, ?_, by omega⟩, ?_, by simp⟩
  · have hl2 : p < st.length + 1 := by omega
    have hne : ¬ p = st.length := by omega
    simp [-getElem?_pos, e, hp, hG.o7, hG.o8, hG.o9, hG.o10, hG.o11, fok, fput, gset, List.getElem?_append, hpl, hl2, hne, gvOb, gvNew]
  · rw [List.getElem?_set_self (by simp; omega)]
  · rw [List.getElem?_set_ne (by omega)]; simp [gvNew]
  · rw [List.getElem?_set_ne (by omega)]; simp [gvNew]
  · exact ((Stp.app [p] st _).trans (Stp.app [p] _ _) (fun _ h => h) fun j hj => .inl hj).trans (Stp.set _ (by simp)) (fun _ h => h) fun j hj => .inl hj
theorem init_bad (k : Nat) (w m : Int) (hw : ¬ (1 ≤ w ∧ w ≤ 20 ∧ w ≤ m ∧ m ≤ 65535)) {p : Nat} {st : St} : R (k + 2) 54 [.ref p, .int w, .int m] st = .exn 4 st := by
  rw [PG.eq_Giver___init__ hR (k + 1), ap_body (by rfl)]
  unfold PG.B_Giver___init__
  have e := fun st => (look_ends_ok hR k w m st).trans (if_neg hw)
  simp [e]
end
/-! ### the taker -/
structure HasTk (G : PG.G) : Prop where
  o12 : G.ok 12 15 = true
def tkOb (a : Nat) : Ob := .ins 15 [(12, .ref a)]
structure TkI (p a : Nat) (ns : List Int) (st : St) : Prop where
  ob : st[p]? = some (tkOb a)
  ls : st[a]? = some (.ml (ns.map D.int))
theorem TkI.keep {p a : Nat} {ns : List Int} {st st' : St} (h : TkI p a ns st) (k : ∀ j, (j = p ∨ j = a) → st'[j]? = st[j]?) : TkI p a ns st' :=
  ⟨(k p (.inl rfl)).trans h.ob, (k a (.inr rfl)).trans h.ls⟩
theorem TkI.stp {p a : Nat} {ns : List Int} {st st' : St} {F : List Nat} (h : TkI p a ns st) (k : Stp F st st') (hp : p ∉ F) (ha : a ∉ F) : TkI p a ns st' :=
  h.keep fun j hj => by
    rcases hj with rfl | rfl
    · exact k.keep _ (get_lt h.ob) hp
    · exact k.keep _ (get_lt h.ls) ha
theorem TkI.pa {p a : Nat} {ns : List Int} {st : St} (h : TkI p a ns st) : p ≠ a := by rintro rfl; have := h.ob; rw [h.ls] at this; cases this
/-- what an answer is -/
def Bk (w : Ans) (i : Int) : D := ansD w i
/-- what a taker answers, hands on, knows behind -/
def tkTook (ns : List Int) : Sn → Option (Ans × Int) × Option Tid × List Int
  | .free i => (some (.done, i), none, ns.filter fun n => !(n == i))
  | .say t _ i => if t.g = 0 then (none, some t, ns) else if t.g = 1 then (some (.got, i), some t, ns) else if ns.contains i then (some (.held, i), none, ns) else (some (.held, i), some t, ns ++ [i])
def oLst {α : Type} (f : α → D) : Option α → List D
  | none => []
  | some a => [f a]
def tkAns (ns : List Int) (s : Sn) : List D := oLst (fun p => ansD p.1 p.2) (tkTook ns s).1
def tkOut (ns : List Int) (s : Sn) : List D := oLst Tid.d (tkTook ns s).2.1
theorem int_in' (n : Int) (ids : List Int) (st : St) : oIn (.int n) (.lst (ids.map D.int)) st = some (.bl (ids.contains n)) := by
  rw [oIn_lst rfl (by simp [D.flat])]
  congr 2
  rw [List.any_map]
  show ids.any (fun y => y == n) = _
  rw [Bool.eq_iff_iff]; simp
theorem in_ref' {x : D} {n : Nat} {st : St} {l : List D} (h : asO st[n]? = some l) : oIn x (.ref n) st = oIn x (.lst l) st := by
  have : asL st (.ref n) = some l := by rw [asL_ref]; exact h
  show (match asL st (.ref n) with | some l => (inL x l).map D.bl | none => none) = _
  rw [this]; rfl
section
variable {G : PG.G} {R : Nat → Calls} (hR : PG.Run G R) (hG : HasTk G)
include hR hG
theorem tk_init (k : Nat) {p : Nat} {st : St} (hp : st[p]? = some (.ins 15 [])) : ∃ st', R (k + 1) 63 [.ref p] st = .ok .non st' ∧ TkI p st.length [] st' ∧ Stp [p] st st' ∧ st'.length = st.length + 1 := by
  rw [PG.eq_Taker___init__ hR k, ap_body (by rfl)]
  unfold PG.B_Taker___init__
  have hpl := get_lt hp
  have hne : ¬ p = st.length := by omega
  refine ⟨(st ++ [Ob.ml []]).set p (tkOb st.length), ?_, ⟨?_, ?_⟩, ?_, by simp⟩
  · simp [-getElem?_pos, hp, hG.o12, fok, fput, gapp, hpl, tkOb]
  · rw [List.getElem?_set_self (by simp; omega)]
  · rw [List.getElem?_set_ne hne]; simp
  · exact (Stp.app [p] st _).trans (Stp.set _ (by simp)) (fun _ h => h) fun j hj => .inl hj
theorem tk_took (k : Nat) {p a : Nat} {ns : List Int} {st : St} (h : TkI p a ns st) (s : Sn) (hl : ns.length ≤ 10000) (hg : ∀ t r i, s = .say t r i → 0 ≤ t.g ∧ t.g ≤ 2) :
    ∃ a' st', R (k + 1) 64 [.ref p, s.d] st = .ok (.tup [.lst (tkAns ns s), .lst (tkOut ns s)]) st' ∧ TkI p a' (tkTook ns s).2.2 st' ∧ (a' = a ∨ st.length ≤ a') ∧ Stp [p, a] st st' := by
  rw [PG.eq_Taker_took hR k, ap_body (by rfl)]
  unfold PG.B_Taker_took
  have hp := h.ob
  have ha := h.ls
  simp only [tkOb] at hp
  have hpl := get_lt h.ob
  have hal := get_lt h.ls
  cases s with
  | free i =>
    refine ⟨st.length, (st ++ [Ob.ml ((ns.filter fun n => !(n == i)).map D.int)]).set p (tkOb st.length), ?_, ⟨?_, ?_⟩, .inr (Nat.le_refl _), ?_⟩
    · have hc : cObj (.name 3) (some (xBin oNe (xVar 3) (xBin oIx (xVar 1) (xC (.int 1))))) (xVar 3) [some (.ref p), some (.tup [.str wFree, .int i]), none, none] a FU 0 [] st = .ok ((ns.filter fun n => !(n == i)).map D.int) st := by
        rw [cObj_filter (f := D.int) (g := D.int) (p := fun n => !(n == i)) (l := ns) (hm := ha) (h := ?h) (hl := by omega)]
        case h => exact fun n _ => ⟨_, put_name _ _ _ _, ⟨.bl (!(n == i)), by simp, rfl⟩, fun _ => by simp⟩
      simp only [wFree] at hc
      simp [-getElem?_pos, Sn.d, wFree, hp, ha, hG.o12, fok, fget, fput]
      rw [hc]
      simp [-getElem?_pos, hp, hG.o12, fok, fput, gapp, hpl, tkOb, tkAns, tkOut, tkTook, oLst, ansD, Ans.s, wDone]
    · rw [List.getElem?_set_self (by simp; omega)]
    · rw [List.getElem?_set_ne (by omega)]; simp [tkTook]
    · exact (Stp.app [p, a] st _).trans (Stp.set _ (by simp)) (fun _ h => h) fun j hj => .inl hj
  | say t r i =>
    have hcut' : ∀ a b c d e f g : D, cut [a, b, c, d, e, f, g] (some 1) (some 5) = [b, c, d, e] := fun _ _ _ _ _ _ _ => rfl
    have hg := hg t r i rfl
    have hin : oIn (.int i) (.ref a) st = some (.bl (ns.contains i)) := (in_ref' (by rw [ha]; rfl)).trans (int_in' i ns st)
    by_cases h0 : t.g = 0
    · refine ⟨a, st, ?_, by simpa [tkTook, h0] using h, .inl rfl, Stp.refl _ _⟩
      simp [Sn.d, wSay, hcut', h0, tkAns, tkOut, tkTook, oLst, Tid.d]
    · by_cases h1 : t.g = 1
      · refine ⟨a, st, ?_, by simpa [tkTook, h0, h1] using h, .inl rfl, Stp.refl _ _⟩
        simp [Sn.d, wSay, hcut', h0, h1, tkAns, tkOut, tkTook, oLst, Tid.d, ansD, Ans.s, wGot]
      · cases hc : ns.contains i with
        | true =>
          rw [hc] at hin
          have hc : i ∈ ns := by simpa using hc
          refine ⟨a, st, ?_, by simpa [tkTook, h0, h1, hc] using h, .inl rfl, Stp.refl _ _⟩
          simp [-getElem?_pos, Sn.d, wSay, hcut', h0, h1, hc, tkAns, tkOut, tkTook, oLst, Tid.d, ansD, Ans.s, wHeld, hp, hG.o12, fok, fget, hin]
        | false =>
          rw [hc] at hin
          have hc : ¬ i ∈ ns := by simpa using hc
          have hl2 : ns.length < 16777216 := by omega
          refine ⟨a, st.set a (.ml (ns.map D.int ++ [.int i])), ?_, ⟨?_, ?_⟩, .inl rfl, Stp.set _ (by simp)⟩
          · simp [-getElem?_pos, Sn.d, wSay, hcut', h0, h1, hc, tkAns, tkOut, tkTook, oLst, Tid.d, ansD, Ans.s, wHeld, hp, ha, hG.o12, fok, fget, hin, app1o, app3o, hl2]
          · rw [gset, if_neg (Ne.symm h.pa)]; exact h.ob
          · rw [gset, if_pos rfl, if_pos hal]; simp [tkTook, h0, h1, hc]
end
end TH.Q
end
section
set_option linter.all false
set_option autoImplicit false
/-! TL: a giver, a taker, a line between. Plain Lean: no program, no store. -/
namespace TH.Q
open TH
/-! ### the pump, told by what it adds -/
def nFly (p : Int × Tid) : Fly := ⟨p.1, p.2.g, some p.2⟩
def nSn (p : Int × Tid) : Sn := .say p.2 false p.1
structure PumpR (g g' : Gv) (out : List Sn) (new : List (Int × Tid)) : Prop where
  win : g'.win = g.win
  most : g'.most = g.most
  wait : g.wait = new.map (·.2) ++ g'.wait
  fly : g'.fly = g.fly ++ new.map nFly
  out : out = new.map nSn
  nd : (ids g.fly ++ new.map (·.1)).Nodup
  one : ∀ p ∈ new, 1 ≤ p.1 ∧ p.1 ≤ g.most
  le : (g'.fly.length : Int) ≤ g.win
  full : g'.wait = [] ∨ g.win ≤ g'.fly.length
theorem pumpL_spec {win most : Int} (hw : win ≤ most) : ∀ (ts : List Tid) (l : Int) (fs : List Fly), 0 ≤ l → l ≤ most → (ids fs).Nodup → (fs.length : Int) ≤ win →
    ∃ new : List (Int × Tid), ts = new.map (·.2) ++ (pumpL win most ts l fs).wait ∧ (pumpL win most ts l fs).fly = fs ++ new.map nFly ∧ (pumpL win most ts l fs).out = new.map nSn ∧ (ids fs ++ new.map (·.1)).Nodup ∧
      (∀ p ∈ new, 1 ≤ p.1 ∧ p.1 ≤ most) ∧ ((pumpL win most ts l fs).fly.length : Int) ≤ win ∧ ((pumpL win most ts l fs).wait = [] ∨ win ≤ (pumpL win most ts l fs).fly.length)
  | [], l, fs, h0, hl, nd, hle => ⟨[], by simp [pumpL, nd, hle]⟩
  | t :: ts, l, fs, h0, hl, nd, hle => by
    by_cases h : (fs.length : Int) < win
    · have k := newId_some (used := ids fs) h0 hl (by unfold ids; simp; omega)
      have nd' : (ids (fs ++ [⟨newId most (ids fs) l, t.g, some t⟩])).Nodup := by
        unfold ids
        rw [List.map_append, List.nodup_append]
        refine ⟨nd, by simp, fun a ha b hb => ?_⟩
        simp only [List.map_cons, List.map_nil, List.mem_singleton] at hb
        subst hb
        rintro rfl
        exact k.2.1 ha
      obtain ⟨new, h1, h2, h3, h4, h5, h6, h7⟩ := pumpL_spec hw ts (newId most (ids fs) l) (fs ++ [⟨newId most (ids fs) l, t.g, some t⟩]) (by omega) k.2.2.2 nd' (by simp; omega)
      have e : pumpL win most (t :: ts) l fs = ⟨(pumpL win most ts (newId most (ids fs) l) (fs ++ [⟨newId most (ids fs) l, t.g, some t⟩])).last, (pumpL win most ts (newId most (ids fs) l) (fs ++ [⟨newId most (ids fs) l, t.g, some t⟩])).wait,
          (pumpL win most ts (newId most (ids fs) l) (fs ++ [⟨newId most (ids fs) l, t.g, some t⟩])).fly, .say t false (newId most (ids fs) l) :: (pumpL win most ts (newId most (ids fs) l) (fs ++ [⟨newId most (ids fs) l, t.g, some t⟩])).out⟩ := by
        simp only [pumpL]; rw [if_pos h]
      rw [e]
      refine ⟨(newId most (ids fs) l, t) :: new, ?_, ?_, ?_, ?_, ?_, h6, h7⟩
      · simp only [List.map_cons, List.cons_append]
        rw [← h1]
      · simp only [h2, List.map_cons, List.append_assoc, List.singleton_append]; rfl
      · simp only [h3, List.map_cons]; rfl
      · unfold ids at h4 ⊢
        simpa using h4
      · intro p hp
        rcases List.mem_cons.mp hp with rfl | hp
        · exact k.2.2
        · exact h5 p hp
    · have e : pumpL win most (t :: ts) l fs = ⟨l, t :: ts, fs, []⟩ := by simp only [pumpL]; rw [if_neg h]
      rw [e]
      exact ⟨[], by simp [nd, hle]; omega⟩
theorem pump_spec {g : Gv} (o : g.Ok) (nd : (ids g.fly).Nodup) (hle : (g.fly.length : Int) ≤ g.win) : ∃ new, PumpR g g.pump.1 g.pump.2 new := by
  obtain ⟨new, h1, h2, h3, h4, h5, h6, h7⟩ := pumpL_spec o.wm g.wait g.last g.fly o.l0 o.lm nd hle
  exact ⟨new, rfl, rfl, h1, h2, h3, h4, h5, h6, h7⟩
/-! ### first ones -/
def firsts (l : List Tid) : List Tid := l.foldl (fun acc t => if t ∈ acc then acc else acc ++ [t]) []
theorem firsts_snoc (l : List Tid) (t : Tid) : firsts (l ++ [t]) = if t ∈ firsts l then firsts l else firsts l ++ [t] := by
  unfold firsts; rw [List.foldl_append]; rfl
theorem snoc_ind {α : Type} {P : List α → Prop} (h0 : P []) (h1 : ∀ l a, P l → P (l ++ [a])) (l : List α) : P l := by
  have : ∀ l : List α, P l.reverse := by
    intro l
    induction l with
    | nil => exact h0
    | cons a l ih => rw [List.reverse_cons]; exact h1 _ _ ih
  have k := this l.reverse
  rwa [List.reverse_reverse] at k
theorem mem_firsts {t : Tid} (l : List Tid) : t ∈ firsts l ↔ t ∈ l := by
  induction l using snoc_ind with
  | h0 => simp [firsts]
  | h1 l a ih =>
    rw [firsts_snoc]
    split
    · rename_i h
      rw [ih, List.mem_append, List.mem_singleton]
      constructor
      · exact .inl
      · rintro (h' | rfl)
        · exact h'
        · exact ih.mp h
    · simp [ih]
/-! ### the line -/
def gr (k : Int) (l : List Tid) : List Tid := l.filter fun t => t.g == k
theorem gr_append (k : Int) (a b : List Tid) : gr k (a ++ b) = gr k a ++ gr k b := List.filter_append ..
def u2 (ns : List Int) (f : Fly) : Option Tid := if f.g = 2 ∧ f.i ∉ ns then f.t else none
def s2 (ns : List Int) : Sn → Option Tid
  | .say t _ i => if t.g = 2 ∧ i ∉ ns then some t else none
  | .free _ => none
def u1 (came : List Tid) (f : Fly) : Option Tid := match f.t with
  | some t => if f.g = 1 ∧ t ∉ came then some t else none
  | none => none
def s1 (came : List Tid) : Sn → Option Tid
  | .say t _ _ => if t.g = 1 ∧ t ∉ came then some t else none
  | .free _ => none
def s0 : Sn → Option Tid
  | .say t _ _ => if t.g = 0 then some t else none
  | .free _ => none
def tokI : Sn → Option Int
  | .say t _ i => if t.g = 0 then none else some i
  | .free i => some i
def thIds (l : List Sn) : List Int := l.filterMap tokI
def bkIds (l : List (Ans × Int)) : List Int := l.map (·.2)
structure Fly.Good (f : Fly) : Prop where
  g : (∃ t, f.t = some t ∧ t.g = f.g ∧ (f.g = 1 ∨ f.g = 2)) ∨ (f.g = 3 ∧ f.t = none)
/-- what holds with a line or without -/
structure J0 (g : Gv) (ns : List Int) (said came : List Tid) : Prop where
  ok : g.Ok
  nd : (ids g.fly).Nodup
  le : (g.fly.length : Int) ≤ g.win
  fl : ∀ f ∈ g.fly, f.Good
  hn : ∀ i ∈ ns, ∃ f ∈ g.fly, f.i = i ∧ (f.g = 2 ∨ f.g = 3)
  wt : ∀ t ∈ g.wait, t.g = 1 ∨ t.g = 2
  two : gr 2 said = gr 2 came ++ (g.fly.filterMap (u2 ns) ++ gr 2 g.wait)
  one : gr 1 said = firsts (gr 1 came) ++ (g.fly.filterMap (u1 came) ++ gr 1 g.wait)
  zero : (gr 0 came).Sublist (gr 0 said)
  sd : said.Nodup
  grs : ∀ t ∈ said, t.g = 0 ∨ t.g = 1 ∨ t.g = 2
  cs : ∀ t ∈ came, t ∈ said
/-- what holds of a line -/
structure J1 (g : Gv) (ns : List Int) (said came : List Tid) (th : List Sn) (bk : List (Ans × Int)) : Prop where
  tok : (thIds th ++ bkIds bk).Perm (ids g.fly)
  say : ∀ t r i, Sn.say t r i ∈ th → t.g = 0 ∨ ⟨i, t.g, some t⟩ ∈ g.fly
  free : ∀ i, Sn.free i ∈ th → ⟨i, 3, none⟩ ∈ g.fly
  got : ∀ i, (Ans.got, i) ∈ bk → ∃ t, ⟨i, 1, some t⟩ ∈ g.fly ∧ t ∈ came
  held : ∀ i, (Ans.held, i) ∈ bk → i ∈ ns ∧ ∃ t, ⟨i, 2, some t⟩ ∈ g.fly
  done : ∀ i, (Ans.done, i) ∈ bk → i ∉ ns ∧ ⟨i, 3, none⟩ ∈ g.fly
  k2 : th.filterMap (s2 ns) = g.fly.filterMap (u2 ns)
  k1 : th.filterMap (s1 came) = g.fly.filterMap (u1 came)
  k0 : (gr 0 came ++ th.filterMap s0).Sublist (gr 0 said)
/-- the giver sends as long as it may -/
def Full (g : Gv) : Prop := g.wait = [] ∨ g.win ≤ g.fly.length
/-! ### new ones go -/
theorem new_u2 {ns : List Int} {new : List (Int × Tid)} (h : ∀ p ∈ new, p.1 ∉ ns) : (new.map nFly).filterMap (u2 ns) = gr 2 (new.map (·.2)) := by
  induction new with
  | nil => rfl
  | cons p new ih =>
    have ih := ih fun q hq => h q (List.mem_cons_of_mem _ hq)
    have hp := h p List.mem_cons_self
    rw [List.map_cons, List.map_cons]
    unfold gr at ih ⊢
    by_cases hg : p.2.g = 2
    · have e : u2 ns (nFly p) = some p.2 := by unfold u2 nFly; rw [if_pos ⟨hg, hp⟩]
      rw [List.filterMap_cons_some e, List.filter_cons_of_pos (by simpa using hg), ih]
    · have e : u2 ns (nFly p) = none := by unfold u2 nFly; rw [if_neg fun z => hg z.1]
      rw [List.filterMap_cons_none e, List.filter_cons_of_neg (by simpa using hg), ih]
theorem new_s2 {ns : List Int} {new : List (Int × Tid)} (h : ∀ p ∈ new, p.1 ∉ ns) : (new.map nSn).filterMap (s2 ns) = gr 2 (new.map (·.2)) := by
  induction new with
  | nil => rfl
  | cons p new ih =>
    have ih := ih fun q hq => h q (List.mem_cons_of_mem _ hq)
    have hp := h p List.mem_cons_self
    rw [List.map_cons, List.map_cons]
    unfold gr at ih ⊢
    by_cases hg : p.2.g = 2
    · have e : s2 ns (nSn p) = some p.2 := by unfold s2 nSn; simp only; rw [if_pos ⟨hg, hp⟩]
      rw [List.filterMap_cons_some e, List.filter_cons_of_pos (by simpa using hg), ih]
    · have e : s2 ns (nSn p) = none := by unfold s2 nSn; simp only; rw [if_neg fun z => hg z.1]
      rw [List.filterMap_cons_none e, List.filter_cons_of_neg (by simpa using hg), ih]
theorem new_u1 {came : List Tid} {new : List (Int × Tid)} (h : ∀ p ∈ new, p.2 ∉ came) : (new.map nFly).filterMap (u1 came) = gr 1 (new.map (·.2)) := by
  induction new with
  | nil => rfl
  | cons p new ih =>
    have ih := ih fun q hq => h q (List.mem_cons_of_mem _ hq)
    have hp := h p List.mem_cons_self
    rw [List.map_cons, List.map_cons]
    unfold gr at ih ⊢
    by_cases hg : p.2.g = 1
    · have e : u1 came (nFly p) = some p.2 := by unfold u1 nFly; simp only; rw [if_pos ⟨hg, hp⟩]
      rw [List.filterMap_cons_some e, List.filter_cons_of_pos (by simpa using hg), ih]
    · have e : u1 came (nFly p) = none := by unfold u1 nFly; simp only; rw [if_neg fun z => hg z.1]
      rw [List.filterMap_cons_none e, List.filter_cons_of_neg (by simpa using hg), ih]
theorem new_s1 {came : List Tid} {new : List (Int × Tid)} (h : ∀ p ∈ new, p.2 ∉ came) : (new.map nSn).filterMap (s1 came) = gr 1 (new.map (·.2)) := by
  induction new with
  | nil => rfl
  | cons p new ih =>
    have ih := ih fun q hq => h q (List.mem_cons_of_mem _ hq)
    have hp := h p List.mem_cons_self
    rw [List.map_cons, List.map_cons]
    unfold gr at ih ⊢
    by_cases hg : p.2.g = 1
    · have e : s1 came (nSn p) = some p.2 := by unfold s1 nSn; simp only; rw [if_pos ⟨hg, hp⟩]
      rw [List.filterMap_cons_some e, List.filter_cons_of_pos (by simpa using hg), ih]
    · have e : s1 came (nSn p) = none := by unfold s1 nSn; simp only; rw [if_neg fun z => hg z.1]
      rw [List.filterMap_cons_none e, List.filter_cons_of_neg (by simpa using hg), ih]
theorem new_s0 {new : List (Int × Tid)} (h : ∀ p ∈ new, p.2.g = 1 ∨ p.2.g = 2) : (new.map nSn).filterMap s0 = [] := by
  rw [List.filterMap_eq_nil_iff]
  intro s hs
  obtain ⟨p, hp, rfl⟩ := List.mem_map.mp hs
  unfold s0 nSn
  simp only
  rw [if_neg (by have := h p hp; omega)]
theorem new_tok {new : List (Int × Tid)} (h : ∀ p ∈ new, p.2.g = 1 ∨ p.2.g = 2) : thIds (new.map nSn) = new.map (·.1) := by
  induction new with
  | nil => rfl
  | cons p new ih =>
    have ih := ih fun q hq => h q (List.mem_cons_of_mem _ hq)
    have hp := h p List.mem_cons_self
    have e : tokI (nSn p) = some p.1 := by unfold tokI nSn; simp only; rw [if_neg (by omega)]
    unfold thIds at ih ⊢
    rw [List.map_cons, List.filterMap_cons_some e, ih]; rfl
theorem fly_uniq {fs : List Fly} (nd : (ids fs).Nodup) {f f' : Fly} (h : f ∈ fs) (h' : f' ∈ fs) (e : f.i = f'.i) : f = f' := by
  induction fs with
  | nil => cases h
  | cons x fs ih =>
    unfold ids at nd
    rw [List.map_cons, List.nodup_cons] at nd
    rcases List.mem_cons.mp h with e1 | h1
    · rcases List.mem_cons.mp h' with e2 | h2
      · rw [e1, e2]
      · subst e1; exact absurd (List.mem_map.mpr ⟨f', h2, e.symm⟩) nd.1
    · rcases List.mem_cons.mp h' with e2 | h2
      · subst e2; exact absurd (List.mem_map.mpr ⟨f, h1, e⟩) nd.1
      · exact ih nd.2 h1 h2
/-- of what waits nothing came -/
theorem J0.fresh {g : Gv} {ns : List Int} {said came : List Tid} (j : J0 g ns said came) : ∀ t ∈ g.wait, t ∉ came := by
  intro t ht hc
  have hs := j.sd
  rcases j.wt t ht with h1 | h2
  · have e := j.one
    have nd1 : (gr 1 said).Nodup := hs.filter _
    rw [e] at nd1
    have a : t ∈ firsts (gr 1 came) := (mem_firsts _).mpr (by unfold gr; simp [hc, h1])
    have b : t ∈ g.fly.filterMap (u1 came) ++ gr 1 g.wait := List.mem_append_right _ (by unfold gr; simp [ht, h1])
    exact (List.nodup_append.mp nd1).2.2 t a t b rfl
  · have e := j.two
    have nd1 : (gr 2 said).Nodup := hs.filter _
    rw [e] at nd1
    have a : t ∈ gr 2 came := by unfold gr; simp [hc, h2]
    have b : t ∈ g.fly.filterMap (u2 ns) ++ gr 2 g.wait := List.mem_append_right _ (by unfold gr; simp [ht, h2])
    exact (List.nodup_append.mp nd1).2.2 t a t b rfl
theorem J0.pump {g g' : Gv} {ns : List Int} {said came : List Tid} {out : List Sn} {new : List (Int × Tid)} (j : J0 g ns said came) (p : PumpR g g' out new) (ok : g'.Ok) : J0 g' ns said came := by
  have hns : ∀ q ∈ new, q.1 ∉ ns := fun q hq hn => by
    obtain ⟨f, hf, e, _⟩ := j.hn _ hn
    have := (List.nodup_append.mp p.nd).2.2 q.1 (by rw [← e]; exact List.mem_map.mpr ⟨f, hf, rfl⟩) q.1 (List.mem_map.mpr ⟨q, hq, rfl⟩)
    exact this rfl
  have hw : ∀ q ∈ new, q.2 ∈ g.wait := fun q hq => by rw [p.wait]; exact List.mem_append_left _ (List.mem_map.mpr ⟨q, hq, rfl⟩)
  have hc : ∀ q ∈ new, q.2 ∉ came := fun q hq => j.fresh _ (hw q hq)
  refine ⟨ok, ?_, by rw [p.win]; exact p.le, ?_, ?_, ?_, ?_, ?_, j.zero, j.sd, j.grs, j.cs⟩
  · unfold ids
    rw [p.fly, List.map_append, List.map_map]
    exact p.nd
  · intro f hf
    rw [p.fly, List.mem_append] at hf
    rcases hf with hf | hf
    · exact j.fl f hf
    · obtain ⟨q, hq, rfl⟩ := List.mem_map.mp hf
      exact ⟨.inl ⟨q.2, rfl, rfl, j.wt _ (hw q hq)⟩⟩
  · intro i hi
    obtain ⟨f, hf, e⟩ := j.hn i hi
    exact ⟨f, by rw [p.fly]; exact List.mem_append_left _ hf, e⟩
  · exact fun t ht => j.wt t (by rw [p.wait]; exact List.mem_append_right _ ht)
  · rw [j.two, p.fly, List.filterMap_append, new_u2 hns, p.wait, gr_append]; simp
  · rw [j.one, p.fly, List.filterMap_append, new_u1 hc, p.wait, gr_append]; simp
theorem J1.pump {g g' : Gv} {ns : List Int} {said came : List Tid} {th : List Sn} {bk : List (Ans × Int)} {out : List Sn} {new : List (Int × Tid)} (j0 : J0 g ns said came) (j : J1 g ns said came th bk) (p : PumpR g g' out new) : J1 g' ns said came (th ++ out) bk := by
  have hns : ∀ q ∈ new, q.1 ∉ ns := fun q hq hn => by
    obtain ⟨f, hf, e, _⟩ := j0.hn _ hn
    have := (List.nodup_append.mp p.nd).2.2 q.1 (by rw [← e]; exact List.mem_map.mpr ⟨f, hf, rfl⟩) q.1 (List.mem_map.mpr ⟨q, hq, rfl⟩)
    exact this rfl
  have hw : ∀ q ∈ new, q.2 ∈ g.wait := fun q hq => by rw [p.wait]; exact List.mem_append_left _ (List.mem_map.mpr ⟨q, hq, rfl⟩)
  have hc : ∀ q ∈ new, q.2 ∉ came := fun q hq => j0.fresh _ (hw q hq)
  have h12 : ∀ q ∈ new, q.2.g = 1 ∨ q.2.g = 2 := fun q hq => j0.wt _ (hw q hq)
  have up : ∀ f ∈ g.fly, f ∈ g'.fly := fun f hf => by rw [p.fly]; exact List.mem_append_left _ hf
  refine ⟨?_, ?_, ?_, ?_, ?_, ?_, ?_, ?_, ?_⟩
  · have e : ids g'.fly = ids g.fly ++ new.map (·.1) := by unfold ids; rw [p.fly, List.map_append, List.map_map]; rfl
    rw [e, p.out]
    unfold thIds
    rw [List.filterMap_append]
    have e2 : List.filterMap tokI (new.map nSn) = new.map (·.1) := new_tok h12
    rw [e2]
    have k := j.tok
    unfold thIds at k
    rw [List.append_assoc]
    refine (List.Perm.append_left _ List.perm_append_comm).trans ?_
    rw [← List.append_assoc]
    exact k.append_right _
  · intro t r i h
    rw [List.mem_append] at h
    rcases h with h | h
    · exact (j.say t r i h).imp id (up _)
    · rw [p.out] at h
      obtain ⟨q, hq, e⟩ := List.mem_map.mp h
      cases e
      exact .inr (by rw [p.fly]; exact List.mem_append_right _ (List.mem_map.mpr ⟨q, hq, rfl⟩))
  · intro i h
    rw [List.mem_append] at h
    rcases h with h | h
    · exact up _ (j.free i h)
    · rw [p.out] at h
      obtain ⟨q, hq, e⟩ := List.mem_map.mp h
      cases e
  · intro i h
    obtain ⟨t, h1, h2⟩ := j.got i h
    exact ⟨t, up _ h1, h2⟩
  · intro i h
    obtain ⟨h1, t, h2⟩ := j.held i h
    exact ⟨h1, t, up _ h2⟩
  · intro i h
    obtain ⟨h1, h2⟩ := j.done i h
    exact ⟨h1, up _ h2⟩
  · rw [List.filterMap_append, j.k2, p.out, new_s2 hns, p.fly, List.filterMap_append, new_u2 hns]
  · rw [List.filterMap_append, j.k1, p.out, new_s1 hc, p.fly, List.filterMap_append, new_u1 hc]
  · rw [List.filterMap_append, p.out, new_s0 h12, List.append_nil]; exact j.k0
end TH.Q
end
section
set_option linter.all false
set_option autoImplicit false
/-! TL2: what a line does keeps what holds of it. Plain Lean. -/
namespace TH.Q
open TH
/-! ### saying -/
theorem J0.say0 {g : Gv} {ns : List Int} {said came : List Tid} (j : J0 g ns said came) {t : Tid} (h0 : t.g = 0) (hn : t ∉ said) : J0 g ns (said ++ [t]) came := by
  refine ⟨j.ok, j.nd, j.le, j.fl, j.hn, j.wt, ?_, ?_, ?_, ?_, ?_, fun t h => List.mem_append_left _ (j.cs t h)⟩
  · rw [gr_append, show gr 2 [t] = [] by simp [gr, h0], List.append_nil]; exact j.two
  · rw [gr_append, show gr 1 [t] = [] by simp [gr, h0], List.append_nil]; exact j.one
  · rw [gr_append]; exact j.zero.trans (List.sublist_append_left _ _)
  · rw [List.nodup_append]
    exact ⟨j.sd, by simp, fun a ha b hb => by rw [List.mem_singleton] at hb; subst hb; rintro rfl; exact hn ha⟩
  · intro x hx
    rw [List.mem_append, List.mem_singleton] at hx
    rcases hx with hx | rfl
    · exact j.grs x hx
    · exact .inl h0
theorem J1.say0 {g : Gv} {ns : List Int} {said came : List Tid} {th : List Sn} {bk : List (Ans × Int)} (j : J1 g ns said came th bk) {t : Tid} (h0 : t.g = 0) (b : Bool) (i : Int) : J1 g ns (said ++ [t]) came (th ++ [.say t b i]) bk := by
  have e2 : s2 ns (.say t b i) = none := by unfold s2; simp only; rw [if_neg (by omega)]
  have e1 : s1 came (.say t b i) = none := by unfold s1; simp only; rw [if_neg (by omega)]
  have e0 : s0 (.say t b i) = some t := by unfold s0; simp only; rw [if_pos h0]
  refine ⟨?_, ?_, ?_, j.got, j.held, j.done, ?_, ?_, ?_⟩
  · unfold thIds
    rw [List.filterMap_append, show List.filterMap tokI [.say t b i] = [] by simp [tokI, h0], List.append_nil]
    exact j.tok
  · intro t' r' i' h
    rw [List.mem_append, List.mem_singleton] at h
    rcases h with h | h
    · exact j.say t' r' i' h
    · cases h; exact .inl h0
  · intro i' h
    rw [List.mem_append, List.mem_singleton] at h
    rcases h with h | h
    · exact j.free i' h
    · cases h
  · rw [List.filterMap_append, show List.filterMap (s2 ns) [.say t b i] = [] by simp [e2], List.append_nil]; exact j.k2
  · rw [List.filterMap_append, show List.filterMap (s1 came) [.say t b i] = [] by simp [e1], List.append_nil]; exact j.k1
  · rw [List.filterMap_append, show List.filterMap s0 [.say t b i] = [t] by simp [e0], gr_append, show gr 0 [t] = [t] by simp [gr, h0], ← List.append_assoc]
    exact List.Sublist.append j.k0 (List.Sublist.refl _)
theorem J0.keep {g : Gv} {ns : List Int} {said came : List Tid} (j : J0 g ns said came) {t : Tid} (h12 : t.g = 1 ∨ t.g = 2) (hn : t ∉ said) : J0 (g.keep t) ns (said ++ [t]) came := by
  have e : g.keep t = { g with wait := g.wait ++ [t] } := by unfold Gv.keep; rw [if_pos (by omega)]
  rw [e]
  refine ⟨⟨j.ok.w1, j.ok.wm, j.ok.l0, j.ok.lm⟩, j.nd, j.le, j.fl, j.hn, ?_, ?_, ?_, ?_, ?_, ?_, fun t h => List.mem_append_left _ (j.cs t h)⟩
  · intro x hx
    rw [List.mem_append, List.mem_singleton] at hx
    rcases hx with hx | rfl
    · exact j.wt x hx
    · exact h12
  · rw [gr_append, j.two, gr_append]; simp
  · rw [gr_append, j.one, gr_append]; simp
  · rw [gr_append]; exact j.zero.trans (List.sublist_append_left _ _)
  · rw [List.nodup_append]
    exact ⟨j.sd, by simp, fun a ha b hb => by rw [List.mem_singleton] at hb; subst hb; rintro rfl; exact hn ha⟩
  · intro x hx
    rw [List.mem_append, List.mem_singleton] at hx
    rcases hx with hx | rfl
    · exact j.grs x hx
    · omega
theorem J1.keep {g : Gv} {ns : List Int} {said came : List Tid} {th : List Sn} {bk : List (Ans × Int)} (j : J1 g ns said came th bk) (t : Tid) : J1 (g.keep t) ns (said ++ [t]) came th bk := by
  have e : (g.keep t).fly = g.fly := by unfold Gv.keep; split <;> rfl
  refine ⟨by rw [e]; exact j.tok, fun t r i h => by rw [e]; exact j.say t r i h, fun i h => by rw [e]; exact j.free i h, fun i h => by rw [e]; exact j.got i h, fun i h => by rw [e]; exact j.held i h, fun i h => by rw [e]; exact j.done i h, by rw [e]; exact j.k2, by rw [e]; exact j.k1, ?_⟩
  rw [gr_append]; exact j.k0.trans (List.sublist_append_left _ _)
/-- the whole of saying -/
theorem say_keeps {g : Gv} {ns : List Int} {said came : List Tid} {th : List Sn} {bk : List (Ans × Int)} (j0 : J0 g ns said came) (j1 : J1 g ns said came th bk) (f : Full g) {t : Tid} (hg : t.g = 0 ∨ t.g = 1 ∨ t.g = 2) (hn : t ∉ said) :
    J0 (g.say t).1 ns (said ++ [t]) came ∧ J1 (g.say t).1 ns (said ++ [t]) came (th ++ (g.say t).2) bk ∧ Full (g.say t).1 := by
  unfold Gv.say
  by_cases h0 : t.g = 0
  · rw [if_pos h0]
    exact ⟨j0.say0 h0 hn, j1.say0 h0 false 0, f⟩
  · rw [if_neg h0]
    have k0 := j0.keep (by omega) hn
    obtain ⟨new, p⟩ := pump_spec k0.ok k0.nd k0.le
    exact ⟨k0.pump p k0.ok.pump, (j1.keep t).pump k0 p, by have := p.full; rw [← p.win] at this; exact this⟩
/-! ### a packet comes to the taker -/
theorem fly_at {fs : List Fly} {f : Fly} (h : f ∈ fs) : ∃ l1 l2, fs = l1 ++ f :: l2 := List.append_of_mem h
theorem tok_nd {g : Gv} {ns : List Int} {said came : List Tid} {th : List Sn} {bk : List (Ans × Int)} (j0 : J0 g ns said came) (j : J1 g ns said came th bk) : (thIds th ++ bkIds bk).Nodup := j.tok.nodup_iff.mpr j0.nd
theorem perm_move {A B : List Int} {i : Int} : (i :: (A ++ B)).Perm (A ++ (B ++ [i])) := by
  rw [← List.append_assoc]
  exact (List.perm_append_singleton i (A ++ B)).symm
theorem thIds_cons {x : Sn} {th : List Sn} {i : Int} (h : tokI x = some i) : thIds (x :: th) = i :: thIds th := List.filterMap_cons_some h
theorem bkIds_snoc (bk : List (Ans × Int)) (w : Ans) (i : Int) : bkIds (bk ++ [(w, i)]) = bkIds bk ++ [i] := by unfold bkIds; simp
theorem fm_congr {α β : Type} {f g : α → Option β} {l : List α} (h : ∀ a ∈ l, f a = g a) : l.filterMap f = l.filterMap g := by
  induction l with
  | nil => rfl
  | cons a l ih => rw [List.filterMap_cons, List.filterMap_cons, h a List.mem_cons_self, ih fun b hb => h b (List.mem_cons_of_mem _ hb)]
/-- the head goes out of a list of those that are still to come -/
theorem head_out {u u' : Fly → Option Tid} {fs l1 l2 : List Fly} {f : Fly} {t : Tid} {rest : List Tid} (e : fs = l1 ++ f :: l2) (hu : u f = some t) (hu' : u' f = none) (nd : (fs.filterMap u).Nodup) (h : fs.filterMap u = t :: rest)
    (c : ∀ x ∈ l1 ++ l2, ∀ t', u x = some t' → t' ≠ t → u' x = some t') (c0 : ∀ x ∈ l1 ++ l2, u x = none → u' x = none) : fs.filterMap u' = rest := by
  subst e
  rw [List.filterMap_append, List.filterMap_cons_some hu] at h nd
  have hd := List.nodup_append.mp nd
  have hA : l1.filterMap u = [] := by
    cases hl : l1.filterMap u with
    | nil => rfl
    | cons a A =>
      rw [hl] at h hd
      cases h
      exact absurd rfl (hd.2.2 t List.mem_cons_self t List.mem_cons_self)
  rw [hA] at h
  have hB : l2.filterMap u = rest := by cases h; rfl
  have nt : t ∉ l2.filterMap u := (List.nodup_cons.mp hd.2.1).1
  rw [List.filterMap_append, List.filterMap_cons_none hu']
  have e1 : l1.filterMap u' = l1.filterMap u := fm_congr fun x hx => by
    have hx' : x ∈ l1 ++ l2 := List.mem_append_left _ hx
    cases q : u x with
    | none => exact c0 x hx' q
    | some t' =>
      have : t' ∈ l1.filterMap u := List.mem_filterMap.mpr ⟨x, hx, q⟩
      rw [hA] at this; cases this
  have e2 : l2.filterMap u' = l2.filterMap u := fm_congr fun x hx => by
    have hx' : x ∈ l1 ++ l2 := List.mem_append_right _ hx
    cases q : u x with
    | none => exact c0 x hx' q
    | some t' => exact c x hx' t' q (by rintro rfl; exact nt (List.mem_filterMap.mpr ⟨x, hx, q⟩))
  rw [e1, e2, hA, hB]; rfl
section
variable {g : Gv} {ns : List Int} {said came : List Tid} {th : List Sn} {bk : List (Ans × Int)}
theorem J0.nd2 (j : J0 g ns said came) : (g.fly.filterMap (u2 ns)).Nodup := by
  have h : (gr 2 said).Nodup := j.sd.filter _
  rw [j.two] at h
  exact (List.nodup_append.mp (List.nodup_append.mp h).2.1).1
theorem J0.nd1 (j : J0 g ns said came) : (g.fly.filterMap (u1 came)).Nodup := by
  have h : (gr 1 said).Nodup := j.sd.filter _
  rw [j.one] at h
  exact (List.nodup_append.mp (List.nodup_append.mp h).2.1).1
/-- free: the id is known no more -/
theorem free_keeps {i : Int} (j0 : J0 g ns said came) (j : J1 g ns said came (.free i :: th) bk) : J0 g (ns.filter fun n => !(n == i)) said came ∧ J1 g (ns.filter fun n => !(n == i)) said came th (bk ++ [(.done, i)]) := by
  have hf := j.free i List.mem_cons_self
  have nd := tok_nd j0 j
  rw [thIds_cons rfl] at nd
  have hni : i ∉ thIds th ++ bkIds bk := (List.nodup_cons.mp nd).1
  rw [List.mem_append, not_or] at hni
  have hm : ∀ n, n ∈ (ns.filter fun n => !(n == i)) ↔ n ∈ ns ∧ n ≠ i := by intro n; simp
  have eu : g.fly.filterMap (u2 (ns.filter fun n => !(n == i))) = g.fly.filterMap (u2 ns) := fm_congr fun f hfm => by
    unfold u2
    by_cases h2 : f.g = 2
    · have hfi : f.i ≠ i := by
        rintro rfl
        have := fly_uniq j0.nd hfm hf rfl
        rw [this] at h2; simp at h2
      simp only [hm, h2, true_and, hfi, ne_eq, not_false_eq_true, and_true]
    · rw [if_neg fun z => h2 z.1, if_neg fun z => h2 z.1]
  have es : th.filterMap (s2 (ns.filter fun n => !(n == i))) = th.filterMap (s2 ns) := fm_congr fun x hx => by
    cases x with
    | free _ => rfl
    | say t r i' =>
      unfold s2
      simp only
      by_cases h2 : t.g = 2
      · have hfi : i' ≠ i := by
          rintro rfl
          exact hni.1 (List.mem_filterMap.mpr ⟨_, hx, by unfold tokI; simp only; rw [if_neg (by omega)]⟩)
        simp only [hm, h2, true_and, hfi, ne_eq, not_false_eq_true, and_true]
      · rw [if_neg fun z => h2 z.1, if_neg fun z => h2 z.1]
  refine ⟨⟨j0.ok, j0.nd, j0.le, j0.fl, fun n hn => j0.hn n ((hm n).mp hn).1, j0.wt, by rw [eu]; exact j0.two, j0.one, j0.zero, j0.sd, j0.grs, j0.cs⟩, ?_, fun t r i' h => j.say t r i' (List.mem_cons_of_mem _ h), fun i' h => j.free i' (List.mem_cons_of_mem _ h), ?_, ?_, ?_, ?_, ?_, ?_⟩
  · have k := j.tok
    rw [thIds_cons rfl] at k
    rw [bkIds_snoc]
    exact perm_move.symm.trans k
  · intro i' h
    rw [List.mem_append, List.mem_singleton] at h
    rcases h with h | h
    · exact j.got i' h
    · cases h
  · intro i' h
    rw [List.mem_append, List.mem_singleton] at h
    rcases h with h | h
    · obtain ⟨h1, h2⟩ := j.held i' h
      exact ⟨(hm _).mpr ⟨h1, by rintro rfl; exact hni.2 (List.mem_map.mpr ⟨_, h, rfl⟩)⟩, h2⟩
    · cases h
  · intro i' h
    rw [List.mem_append, List.mem_singleton] at h
    rcases h with h | h
    · obtain ⟨h1, h2⟩ := j.done i' h
      exact ⟨fun z => h1 ((hm _).mp z).1, h2⟩
    · cases h
      exact ⟨fun z => ((hm _).mp z).2 rfl, hf⟩
  · rw [es, eu]
    have := j.k2
    rwa [List.filterMap_cons_none (show s2 ns (.free i) = none from rfl)] at this
  · have := j.k1
    rwa [List.filterMap_cons_none (show s1 came (.free i) = none from rfl)] at this
  · have := j.k0
    rwa [List.filterMap_cons_none (show s0 (.free i) = none from rfl)] at this
/-- grade 0 -/
theorem got0_keeps {t : Tid} {r : Bool} {i : Int} (h0 : t.g = 0) (j0 : J0 g ns said came) (j : J1 g ns said came (.say t r i :: th) bk) : J0 g ns said (came ++ [t]) ∧ J1 g ns said (came ++ [t]) th bk := by
  have e2 : s2 ns (.say t r i) = none := by unfold s2; simp only; rw [if_neg (by omega)]
  have e1 : s1 came (.say t r i) = none := by unfold s1; simp only; rw [if_neg (by omega)]
  have e0 : s0 (.say t r i) = some t := by unfold s0; simp only; rw [if_pos h0]
  have et : tokI (.say t r i) = none := by unfold tokI; simp only; rw [if_pos h0]
  have k0 := j.k0
  rw [List.filterMap_cons_some e0] at k0
  have k0' : (gr 0 (came ++ [t]) ++ th.filterMap s0).Sublist (gr 0 said) := by
    rw [gr_append, show gr 0 [t] = [t] by simp [gr, h0], List.append_assoc]; exact k0
  have hts : t ∈ said := by
    have : t ∈ gr 0 said := k0.subset (List.mem_append_right _ List.mem_cons_self)
    exact (List.mem_filter.mp this).1
  have eu : g.fly.filterMap (u1 (came ++ [t])) = g.fly.filterMap (u1 came) := fm_congr fun f hfm => by
    unfold u1
    rcases (j0.fl f hfm).g with ⟨t', h1, h2, h3⟩ | ⟨h1, h2⟩
    · rw [h1]
      simp only
      by_cases hg : f.g = 1
      · have : t' ≠ t := by rintro rfl; omega
        simp [hg, this]
      · rw [if_neg fun z => hg z.1, if_neg fun z => hg z.1]
    · rw [h2]
  have es : th.filterMap (s1 (came ++ [t])) = th.filterMap (s1 came) := fm_congr fun x hx => by
    cases x with
    | free _ => rfl
    | say t' r' i' =>
      unfold s1
      simp only
      by_cases hg : t'.g = 1
      · have : t' ≠ t := by rintro rfl; omega
        simp [hg, this]
      · rw [if_neg fun z => hg z.1, if_neg fun z => hg z.1]
  refine ⟨⟨j0.ok, j0.nd, j0.le, j0.fl, j0.hn, j0.wt, ?_, ?_, ?_, j0.sd, j0.grs, ?_⟩, ?_, fun t' r' i' h => j.say t' r' i' (List.mem_cons_of_mem _ h), fun i' h => j.free i' (List.mem_cons_of_mem _ h), ?_, j.held, j.done, ?_, ?_, k0'⟩
  · rw [gr_append, show gr 2 [t] = [] by simp [gr, h0], List.append_nil]; exact j0.two
  · rw [gr_append, show gr 1 [t] = [] by simp [gr, h0], List.append_nil, eu]; exact j0.one
  · exact (List.sublist_append_left _ _).trans k0'
  · intro x hx
    rw [List.mem_append, List.mem_singleton] at hx
    rcases hx with hx | rfl
    · exact j0.cs x hx
    · exact hts
  · have k := j.tok
    unfold thIds at k ⊢
    rwa [List.filterMap_cons_none et] at k
  · intro i' h
    obtain ⟨t', h1, h2⟩ := j.got i' h
    exact ⟨t', h1, List.mem_append_left _ h2⟩
  · have := j.k2
    rwa [List.filterMap_cons_none e2] at this
  · have := j.k1
    rw [List.filterMap_cons_none e1] at this
    rw [es, eu]; exact this
/-- grade 1, come already -/
theorem got1a_keeps {t : Tid} {r : Bool} {i : Int} (h1 : t.g = 1) (hc : t ∈ came) (j0 : J0 g ns said came) (j : J1 g ns said came (.say t r i :: th) bk) : J0 g ns said (came ++ [t]) ∧ J1 g ns said (came ++ [t]) th (bk ++ [(.got, i)]) := by
  have e2 : s2 ns (.say t r i) = none := by unfold s2; simp only; rw [if_neg (by omega)]
  have e1 : s1 came (.say t r i) = none := by unfold s1; simp only; rw [if_neg fun z => z.2 hc]
  have e0 : s0 (.say t r i) = none := by unfold s0; simp only; rw [if_neg (by omega)]
  have et : tokI (.say t r i) = some i := by unfold tokI; simp only; rw [if_neg (by omega)]
  have hf : ⟨i, 1, some t⟩ ∈ g.fly := by
    rcases j.say t r i List.mem_cons_self with h | h
    · omega
    · rw [h1] at h; exact h
  have mm : ∀ x : Tid, x ∈ came ++ [t] ↔ x ∈ came := fun x => by
    rw [List.mem_append, List.mem_singleton]
    exact ⟨fun h => h.elim id fun e => e ▸ hc, .inl⟩
  have eu : g.fly.filterMap (u1 (came ++ [t])) = g.fly.filterMap (u1 came) := fm_congr fun f _ => by unfold u1; simp only [mm]
  have es : th.filterMap (s1 (came ++ [t])) = th.filterMap (s1 came) := fm_congr fun x _ => by
    cases x with
    | free _ => rfl
    | say t' r' i' => unfold s1; simp only [mm]
  refine ⟨⟨j0.ok, j0.nd, j0.le, j0.fl, j0.hn, j0.wt, ?_, ?_, ?_, j0.sd, j0.grs, fun x hx => j0.cs x ((mm x).mp hx)⟩, ?_, fun t' r' i' h => j.say t' r' i' (List.mem_cons_of_mem _ h), fun i' h => j.free i' (List.mem_cons_of_mem _ h), ?_, ?_, ?_, ?_, ?_, ?_⟩
  · rw [gr_append, show gr 2 [t] = [] by simp [gr, h1], List.append_nil]; exact j0.two
  · rw [gr_append, show gr 1 [t] = [t] by simp [gr, h1], firsts_snoc, if_pos ((mem_firsts _).mpr (by unfold gr; simp [hc, h1])), eu]; exact j0.one
  · rw [gr_append, show gr 0 [t] = [] by simp [gr, h1], List.append_nil]; exact j0.zero
  · have k := j.tok
    rw [thIds_cons et] at k
    rw [bkIds_snoc]
    exact perm_move.symm.trans k
  · intro i' h
    rw [List.mem_append, List.mem_singleton] at h
    rcases h with h | h
    · obtain ⟨t', h1, h2⟩ := j.got i' h
      exact ⟨t', h1, List.mem_append_left _ h2⟩
    · cases h
      exact ⟨t, hf, by simp⟩
  · intro i' h
    rw [List.mem_append, List.mem_singleton] at h
    rcases h with h | h
    · exact j.held i' h
    · cases h
  · intro i' h
    rw [List.mem_append, List.mem_singleton] at h
    rcases h with h | h
    · exact j.done i' h
    · cases h
  · have := j.k2
    rwa [List.filterMap_cons_none e2] at this
  · have := j.k1
    rw [List.filterMap_cons_none e1] at this
    rw [es, eu]; exact this
  · have := j.k0
    rw [List.filterMap_cons_none e0] at this
    rw [gr_append, show gr 0 [t] = [] by simp [gr, h1], List.append_nil]; exact this
/-- grade 1, for the first time -/
theorem got1b_keeps {t : Tid} {r : Bool} {i : Int} (h1 : t.g = 1) (hc : t ∉ came) (j0 : J0 g ns said came) (j : J1 g ns said came (.say t r i :: th) bk) : J0 g ns said (came ++ [t]) ∧ J1 g ns said (came ++ [t]) th (bk ++ [(.got, i)]) := by
  have e2 : s2 ns (.say t r i) = none := by unfold s2; simp only; rw [if_neg (by omega)]
  have e1 : s1 came (.say t r i) = some t := by unfold s1; simp only; rw [if_pos ⟨h1, hc⟩]
  have e0 : s0 (.say t r i) = none := by unfold s0; simp only; rw [if_neg (by omega)]
  have et : tokI (.say t r i) = some i := by unfold tokI; simp only; rw [if_neg (by omega)]
  have hf : ⟨i, 1, some t⟩ ∈ g.fly := by
    rcases j.say t r i List.mem_cons_self with h | h
    · omega
    · rw [h1] at h; exact h
  have k1 := j.k1
  rw [List.filterMap_cons_some e1] at k1
  have nd1 := j0.nd1
  have ndt : t ∉ th.filterMap (s1 came) := by
    have nd1 := nd1
    rw [← k1] at nd1
    exact (List.nodup_cons.mp nd1).1
  have es : th.filterMap (s1 (came ++ [t])) = th.filterMap (s1 came) := fm_congr fun x hx => by
    cases x with
    | free _ => rfl
    | say t' r' i' =>
      unfold s1
      simp only
      by_cases hp : t'.g = 1 ∧ t' ∉ came
      · have hne : t' ≠ t := by
          rintro rfl
          exact ndt (List.mem_filterMap.mpr ⟨_, hx, by unfold s1; simp only; rw [if_pos hp]⟩)
        rw [if_pos hp, if_pos ⟨hp.1, by simp [hp.2, hne]⟩]
      · rw [if_neg hp, if_neg fun z => hp ⟨z.1, fun q => z.2 (List.mem_append_left _ q)⟩]
  obtain ⟨l1, l2, el⟩ := fly_at hf
  have eu : g.fly.filterMap (u1 (came ++ [t])) = th.filterMap (s1 came) := head_out (u := u1 came) el (by unfold u1; simp only; rw [if_pos ⟨trivial, hc⟩]) (by unfold u1; simp) nd1 k1.symm
    (fun x _ t' q hne => by
      unfold u1 at q ⊢
      cases ht : x.t with
      | none => rw [ht] at q; cases q
      | some y =>
        rw [ht] at q
        simp only at q ⊢
        by_cases hp : x.g = 1 ∧ y ∉ came
        · rw [if_pos hp] at q
          cases q
          rw [if_pos ⟨hp.1, by simp [hp.2, hne]⟩]
        · rw [if_neg hp] at q; cases q)
    (fun x _ q => by
      unfold u1 at q ⊢
      cases ht : x.t with
      | none => rfl
      | some y =>
        rw [ht] at q
        simp only at q ⊢
        by_cases hp : x.g = 1 ∧ y ∉ came
        · rw [if_pos hp] at q; cases q
        · rw [if_neg fun z => hp ⟨z.1, fun w => z.2 (List.mem_append_left _ w)⟩])
  have hts : t ∈ said := by
    have : t ∈ gr 1 said := by
      rw [j0.one, ← k1]; simp
    exact (List.mem_filter.mp this).1
  refine ⟨⟨j0.ok, j0.nd, j0.le, j0.fl, j0.hn, j0.wt, ?_, ?_, ?_, j0.sd, j0.grs, ?_⟩, ?_, fun t' r' i' h => j.say t' r' i' (List.mem_cons_of_mem _ h), fun i' h => j.free i' (List.mem_cons_of_mem _ h), ?_, ?_, ?_, ?_, ?_, ?_⟩
  · rw [gr_append, show gr 2 [t] = [] by simp [gr, h1], List.append_nil]; exact j0.two
  · rw [gr_append, show gr 1 [t] = [t] by simp [gr, h1], firsts_snoc, if_neg (fun z => hc (by have := (mem_firsts _).mp z; exact (List.mem_filter.mp this).1)), eu, j0.one, ← k1]; simp
  · rw [gr_append, show gr 0 [t] = [] by simp [gr, h1], List.append_nil]; exact j0.zero
  · intro x hx
    rw [List.mem_append, List.mem_singleton] at hx
    rcases hx with hx | rfl
    · exact j0.cs x hx
    · exact hts
  · have k := j.tok
    rw [thIds_cons et] at k
    rw [bkIds_snoc]
    exact perm_move.symm.trans k
  · intro i' h
    rw [List.mem_append, List.mem_singleton] at h
    rcases h with h | h
    · obtain ⟨t', h1, h2⟩ := j.got i' h
      exact ⟨t', h1, List.mem_append_left _ h2⟩
    · cases h
      exact ⟨t, hf, by simp⟩
  · intro i' h
    rw [List.mem_append, List.mem_singleton] at h
    rcases h with h | h
    · exact j.held i' h
    · cases h
  · intro i' h
    rw [List.mem_append, List.mem_singleton] at h
    rcases h with h | h
    · exact j.done i' h
    · cases h
  · have := j.k2
    rwa [List.filterMap_cons_none e2] at this
  · rw [es, eu]
  · have := j.k0
    rw [List.filterMap_cons_none e0] at this
    rw [gr_append, show gr 0 [t] = [] by simp [gr, h1], List.append_nil]; exact this
/-- grade 2, held already -/
theorem got2a_keeps {t : Tid} {r : Bool} {i : Int} (h2 : t.g = 2) (hc : i ∈ ns) (j0 : J0 g ns said came) (j : J1 g ns said came (.say t r i :: th) bk) : J1 g ns said came th (bk ++ [(.held, i)]) := by
  have e2 : s2 ns (.say t r i) = none := by unfold s2; simp only; rw [if_neg fun z => z.2 hc]
  have e1 : s1 came (.say t r i) = none := by unfold s1; simp only; rw [if_neg (by omega)]
  have e0 : s0 (.say t r i) = none := by unfold s0; simp only; rw [if_neg (by omega)]
  have et : tokI (.say t r i) = some i := by unfold tokI; simp only; rw [if_neg (by omega)]
  have hf : ⟨i, 2, some t⟩ ∈ g.fly := by
    rcases j.say t r i List.mem_cons_self with h | h
    · omega
    · rw [h2] at h; exact h
  refine ⟨?_, fun t' r' i' h => j.say t' r' i' (List.mem_cons_of_mem _ h), fun i' h => j.free i' (List.mem_cons_of_mem _ h), ?_, ?_, ?_, ?_, ?_, ?_⟩
  · have k := j.tok
    rw [thIds_cons et] at k
    rw [bkIds_snoc]
    exact perm_move.symm.trans k
  · intro i' h
    rw [List.mem_append, List.mem_singleton] at h
    rcases h with h | h
    · exact j.got i' h
    · cases h
  · intro i' h
    rw [List.mem_append, List.mem_singleton] at h
    rcases h with h | h
    · exact j.held i' h
    · cases h
      exact ⟨hc, t, hf⟩
  · intro i' h
    rw [List.mem_append, List.mem_singleton] at h
    rcases h with h | h
    · exact j.done i' h
    · cases h
  · have := j.k2
    rwa [List.filterMap_cons_none e2] at this
  · have := j.k1
    rwa [List.filterMap_cons_none e1] at this
  · have := j.k0
    rwa [List.filterMap_cons_none e0] at this
/-- grade 2, for the first time -/
theorem got2b_keeps {t : Tid} {r : Bool} {i : Int} (h2 : t.g = 2) (hc : i ∉ ns) (j0 : J0 g ns said came) (j : J1 g ns said came (.say t r i :: th) bk) : J0 g (ns ++ [i]) said (came ++ [t]) ∧ J1 g (ns ++ [i]) said (came ++ [t]) th (bk ++ [(.held, i)]) := by
  have e2 : s2 ns (.say t r i) = some t := by unfold s2; simp only; rw [if_pos ⟨h2, hc⟩]
  have e1 : s1 came (.say t r i) = none := by unfold s1; simp only; rw [if_neg (by omega)]
  have e0 : s0 (.say t r i) = none := by unfold s0; simp only; rw [if_neg (by omega)]
  have et : tokI (.say t r i) = some i := by unfold tokI; simp only; rw [if_neg (by omega)]
  have hf : ⟨i, 2, some t⟩ ∈ g.fly := by
    rcases j.say t r i List.mem_cons_self with h | h
    · omega
    · rw [h2] at h; exact h
  have nd := tok_nd j0 j
  rw [thIds_cons et] at nd
  have hni : i ∉ thIds th ++ bkIds bk := (List.nodup_cons.mp nd).1
  rw [List.mem_append, not_or] at hni
  have k2 := j.k2
  rw [List.filterMap_cons_some e2] at k2
  have es2 : th.filterMap (s2 (ns ++ [i])) = th.filterMap (s2 ns) := fm_congr fun x hx => by
    cases x with
    | free _ => rfl
    | say t' r' i' =>
      unfold s2
      simp only
      by_cases hg : t'.g = 2
      · have hne : i' ≠ i := by
          rintro rfl
          exact hni.1 (List.mem_filterMap.mpr ⟨_, hx, by unfold tokI; simp only; rw [if_neg (by omega)]⟩)
        simp [hg, hne]
      · rw [if_neg fun z => hg z.1, if_neg fun z => hg z.1]
  obtain ⟨l1, l2, el⟩ := fly_at hf
  have hid : ∀ x ∈ l1 ++ l2, x.i ≠ i := by
    intro x hx
    have nd := j0.nd
    rw [el] at nd
    unfold ids at nd
    rw [List.map_append, List.map_cons] at nd
    have h1 := List.nodup_append.mp nd
    have h2 := List.nodup_cons.mp h1.2.1
    rcases List.mem_append.mp hx with hx | hx
    · exact h1.2.2 _ (List.mem_map.mpr ⟨x, hx, rfl⟩) _ List.mem_cons_self
    · rintro e
      exact h2.1 (List.mem_map.mpr ⟨x, hx, e⟩)
  have eu2 : g.fly.filterMap (u2 (ns ++ [i])) = th.filterMap (s2 ns) := head_out (u := u2 ns) el (by unfold u2; simp only; rw [if_pos ⟨trivial, hc⟩]) (by unfold u2; simp) j0.nd2 k2.symm
    (fun x hx t' q hne => by
      unfold u2 at q ⊢
      by_cases hp : x.g = 2 ∧ x.i ∉ ns
      · rw [if_pos hp] at q
        rw [if_pos ⟨hp.1, by simp [hp.2, hid x hx]⟩]; exact q
      · rw [if_neg hp] at q; cases q)
    (fun x hx q => by
      unfold u2 at q ⊢
      by_cases hp : x.g = 2 ∧ x.i ∉ ns
      · rw [if_pos hp] at q
        split
        · exact q
        · rfl
      · rw [if_neg fun z => hp ⟨z.1, fun w => z.2 (List.mem_append_left _ w)⟩])
  have hts : t ∈ said := by
    have : t ∈ gr 2 said := by rw [j0.two, ← k2]; simp
    exact (List.mem_filter.mp this).1
  have eu1 : g.fly.filterMap (u1 (came ++ [t])) = g.fly.filterMap (u1 came) := fm_congr fun f hfm => by
    unfold u1
    rcases (j0.fl f hfm).g with ⟨t', h1, h2', h3⟩ | ⟨h1, h2'⟩
    · rw [h1]
      simp only
      by_cases hg : f.g = 1
      · have : t' ≠ t := by rintro rfl; omega
        simp [hg, this]
      · rw [if_neg fun z => hg z.1, if_neg fun z => hg z.1]
    · rw [h2']
  have es1 : th.filterMap (s1 (came ++ [t])) = th.filterMap (s1 came) := fm_congr fun x hx => by
    cases x with
    | free _ => rfl
    | say t' r' i' =>
      unfold s1
      simp only
      by_cases hg : t'.g = 1
      · have : t' ≠ t := by rintro rfl; omega
        simp [hg, this]
      · rw [if_neg fun z => hg z.1, if_neg fun z => hg z.1]
  refine ⟨⟨j0.ok, j0.nd, j0.le, j0.fl, ?_, j0.wt, ?_, ?_, ?_, j0.sd, j0.grs, ?_⟩, ?_, fun t' r' i' h => j.say t' r' i' (List.mem_cons_of_mem _ h), fun i' h => j.free i' (List.mem_cons_of_mem _ h), ?_, ?_, ?_, ?_, ?_, ?_⟩
  · intro n hn
    rw [List.mem_append, List.mem_singleton] at hn
    rcases hn with hn | rfl
    · exact j0.hn n hn
    · exact ⟨_, hf, rfl, .inl rfl⟩
  · rw [gr_append, show gr 2 [t] = [t] by simp [gr, h2], eu2, j0.two, ← k2]; simp
  · rw [gr_append, show gr 1 [t] = [] by simp [gr, h2], List.append_nil, eu1]; exact j0.one
  · rw [gr_append, show gr 0 [t] = [] by simp [gr, h2], List.append_nil]; exact j0.zero
  · intro x hx
    rw [List.mem_append, List.mem_singleton] at hx
    rcases hx with hx | rfl
    · exact j0.cs x hx
    · exact hts
  · have k := j.tok
    rw [thIds_cons et] at k
    rw [bkIds_snoc]
    exact perm_move.symm.trans k
  · intro i' h
    rw [List.mem_append, List.mem_singleton] at h
    rcases h with h | h
    · obtain ⟨t', h1, h2⟩ := j.got i' h
      exact ⟨t', h1, List.mem_append_left _ h2⟩
    · cases h
  · intro i' h
    rw [List.mem_append, List.mem_singleton] at h
    rcases h with h | h
    · exact ⟨List.mem_append_left _ (j.held i' h).1, (j.held i' h).2⟩
    · cases h
      exact ⟨by simp, t, hf⟩
  · intro i' h
    rw [List.mem_append, List.mem_singleton] at h
    rcases h with h | h
    · obtain ⟨h1, h2⟩ := j.done i' h
      refine ⟨?_, h2⟩
      rw [List.mem_append, List.mem_singleton, not_or]
      exact ⟨h1, by rintro rfl; exact hni.2 (List.mem_map.mpr ⟨_, h, rfl⟩)⟩
    · cases h
  · rw [es2, eu2]
  · have := j.k1
    rw [List.filterMap_cons_none e1] at this
    rw [es1, eu1]; exact this
  · have := j.k0
    rw [List.filterMap_cons_none e0] at this
    rw [gr_append, show gr 0 [t] = [] by simp [gr, h2], List.append_nil]; exact this
def oL {α : Type} : Option α → List α
  | none => []
  | some a => [a]
/-- the whole of a packet's coming -/
theorem took_keeps {x : Sn} (j0 : J0 g ns said came) (j : J1 g ns said came (x :: th) bk) :
    J0 g (tkTook ns x).2.2 said (came ++ oL (tkTook ns x).2.1) ∧ J1 g (tkTook ns x).2.2 said (came ++ oL (tkTook ns x).2.1) th (bk ++ oL (tkTook ns x).1) := by
  cases x with
  | free i =>
    have k := free_keeps j0 j
    simpa [tkTook, oL] using k
  | say t r i =>
    unfold tkTook
    by_cases h0 : t.g = 0
    · simp only [h0, if_true]
      have k := got0_keeps h0 j0 j
      simpa [oL] using k
    · by_cases h1 : t.g = 1
      · simp only [h0, h1, if_false, if_true]
        by_cases hc : t ∈ came
        · have k := got1a_keeps h1 hc j0 j
          simpa [oL] using k
        · have k := got1b_keeps h1 hc j0 j
          simpa [oL] using k
      · have h2 : t.g = 2 := by
          rcases j.say t r i List.mem_cons_self with h | h
          · omega
          · rcases (j0.fl _ h).g with ⟨_, _, _, h3⟩ | ⟨_, h3⟩
            · simp at h3; omega
            · cases h3
        by_cases hc : i ∈ ns
        · have k := got2a_keeps h2 hc j0 j
          simp [h0, h1, hc, oL, k, j0]
        · have k := got2b_keeps h2 hc j0 j
          simpa [h0, h1, hc, oL] using k
end
end TH.Q
end
section
set_option linter.all false
set_option autoImplicit false
/-! TL3: answers, a new line, how far it is to the end. Plain Lean. -/
namespace TH.Q
open TH
theorem place_at {g : Gv} (nd : (ids g.fly).Nodup) {l1 l2 : List Fly} {f : Fly} (e : g.fly = l1 ++ f :: l2) : g.place f.i f.g = some l1.length := by
  unfold Gv.place
  rw [List.findIdx?_eq_some_iff_getElem]
  refine ⟨by rw [e]; simp, ?_, fun m hm => ?_⟩
  · have : g.fly[l1.length]'(by rw [e]; simp) = f := by simp [e]
    rw [this]; simp
  · have hx : g.fly[m]'(by rw [e]; simp; omega) = l1[m] := by simp [e, List.getElem_append_left hm]
    rw [hx]
    have : l1[m].i ≠ f.i := by
      rw [e] at nd
      unfold ids at nd
      rw [List.map_append, List.map_cons] at nd
      exact (List.nodup_append.mp nd).2.2 _ (List.mem_map.mpr ⟨l1[m], List.getElem_mem _, rfl⟩) _ List.mem_cons_self
    simp [this]
theorem erase_mid {α : Type} (l1 l2 : List α) (f : α) : (l1 ++ f :: l2).eraseIdx l1.length = l1 ++ l2 := by
  induction l1 with
  | nil => rfl
  | cons a l1 ih => show a :: (l1 ++ f :: l2).eraseIdx l1.length = _; rw [ih]; rfl
theorem set_mid {α : Type} (l1 l2 : List α) (f x : α) : (l1 ++ f :: l2).set l1.length x = l1 ++ x :: l2 := by
  induction l1 with
  | nil => rfl
  | cons a l1 ih => show a :: (l1 ++ f :: l2).set l1.length x = _; rw [ih]; rfl
section
variable {g : Gv} {ns : List Int} {said came : List Tid} {th : List Sn} {bk : List (Ans × Int)}
/-- one that is under way no more -/
theorem over_keeps {w : Ans} {f : Fly} (hw : (w = .got ∧ f.g = 1 ∧ ∃ t, f.t = some t ∧ t ∈ came) ∨ (w = .done ∧ f.g = 3)) (hf : f ∈ g.fly) (hns : f.i ∉ ns) (j0 : J0 g ns said came) (j : J1 g ns said came th ((w, f.i) :: bk)) :
    J0 (g.over f.i f.g).1 ns said came ∧ J1 (g.over f.i f.g).1 ns said came (th ++ (g.over f.i f.g).2) bk ∧ Full (g.over f.i f.g).1 := by
  obtain ⟨l1, l2, e⟩ := fly_at hf
  unfold Gv.over
  rw [place_at j0.nd e]
  simp only
  have e' : g.fly.eraseIdx l1.length = l1 ++ l2 := by rw [e]; exact erase_mid l1 l2 f
  rw [e']
  have nd0 := j0.nd
  rw [e] at nd0
  unfold ids at nd0
  rw [List.map_append, List.map_cons] at nd0
  have hmid := List.nodup_append.mp nd0
  have hcons := List.nodup_cons.mp hmid.2.1
  have hid : ∀ x ∈ l1 ++ l2, x.i ≠ f.i := by
    intro x hx
    rcases List.mem_append.mp hx with hx | hx
    · exact hmid.2.2 _ (List.mem_map.mpr ⟨x, hx, rfl⟩) _ List.mem_cons_self
    · rintro e1
      exact hcons.1 (List.mem_map.mpr ⟨x, hx, e1⟩)
  have sub : ∀ x ∈ l1 ++ l2, x ∈ g.fly := fun x hx => by
    rw [e]
    rcases List.mem_append.mp hx with hx | hx
    · exact List.mem_append_left _ hx
    · exact List.mem_append_right _ (List.mem_cons_of_mem _ hx)
  have back : ∀ x ∈ g.fly, x.i ≠ f.i → x ∈ l1 ++ l2 := fun x hx hne => by
    rw [e] at hx
    rcases List.mem_append.mp hx with hx | hx
    · exact List.mem_append_left _ hx
    · rcases List.mem_cons.mp hx with rfl | hx
      · exact absurd rfl hne
      · exact List.mem_append_right _ hx
  have f2 : u2 ns f = none := by unfold u2; rw [if_neg (by rcases hw with ⟨_, h, _⟩ | ⟨_, h⟩ <;> omega)]
  have f1 : u1 came f = none := by
    unfold u1
    rcases hw with ⟨_, h, t, ht, hc⟩ | ⟨_, h⟩
    · rw [ht]; simp only; rw [if_neg fun z => z.2 hc]
    · cases f.t with
      | none => rfl
      | some t => simp only; rw [if_neg (by omega)]
  have m2 : g.fly.filterMap (u2 ns) = (l1 ++ l2).filterMap (u2 ns) := by rw [e, List.filterMap_append, List.filterMap_cons_none f2, List.filterMap_append]
  have m1 : g.fly.filterMap (u1 came) = (l1 ++ l2).filterMap (u1 came) := by rw [e, List.filterMap_append, List.filterMap_cons_none f1, List.filterMap_append]
  have tk := j.tok
  have hbk : bkIds ((w, f.i) :: bk) = f.i :: bkIds bk := rfl
  rw [hbk] at tk
  have eids : ids g.fly = l1.map Fly.i ++ f.i :: l2.map Fly.i := by unfold ids; rw [e]; simp
  have tk' : (thIds th ++ bkIds bk).Perm (ids (l1 ++ l2)) := by
    have a : (f.i :: (thIds th ++ bkIds bk)).Perm (f.i :: (l1.map Fly.i ++ l2.map Fly.i)) := by
      refine List.perm_middle.symm.trans (tk.trans ?_)
      rw [eids]
      exact List.perm_middle
    unfold ids
    rw [List.map_append]
    exact a.cons_inv
  have ndk : f.i ∉ thIds th ++ bkIds bk := by
    have h := tok_nd j0 j
    rw [hbk] at h
    have h2 := List.perm_middle.nodup_iff.mp h
    exact (List.nodup_cons.mp h2).1
  rw [List.mem_append, not_or] at ndk
  have g1 : J0 { g with fly := l1 ++ l2 } ns said came := by
    refine ⟨⟨j0.ok.w1, j0.ok.wm, j0.ok.l0, j0.ok.lm⟩, ?_, ?_, fun x hx => j0.fl x (sub x hx), ?_, j0.wt, ?_, ?_, j0.zero, j0.sd, j0.grs, j0.cs⟩
    · unfold ids
      simp only [List.map_append]
      rw [List.nodup_append]
      exact ⟨hmid.1, hcons.2, fun a ha b hb => hmid.2.2 a ha b (List.mem_cons_of_mem _ hb)⟩
    · have := j0.le
      rw [e] at this
      simp at this ⊢; omega
    · intro n hn
      obtain ⟨x, hx, ex, h23⟩ := j0.hn n hn
      exact ⟨x, back x hx (by rintro z; rw [← ex, z] at hn; exact hns hn), ex, h23⟩
    · rw [← m2]; exact j0.two
    · rw [← m1]; exact j0.one
  have k1 : J1 { g with fly := l1 ++ l2 } ns said came th bk := by
    refine ⟨tk', fun t r i h => ?_, fun i h => ?_, fun i h => ?_, fun i h => ?_, fun i h => ?_, by rw [← m2]; exact j.k2, by rw [← m1]; exact j.k1, j.k0⟩
    · rcases j.say t r i h with h0 | h1
      · exact .inl h0
      · by_cases h0 : t.g = 0
        · exact .inl h0
        · refine .inr (back _ h1 ?_)
          rintro z
          have z : i = f.i := z
          exact ndk.1 (List.mem_filterMap.mpr ⟨_, h, by unfold tokI; simp only; rw [if_neg h0, z]⟩)
    · refine back _ (j.free i h) ?_
      rintro z
      have z : i = f.i := z
      exact ndk.1 (List.mem_filterMap.mpr ⟨_, h, by unfold tokI; rw [z]⟩)
    · obtain ⟨t, h1, h2⟩ := j.got i (List.mem_cons_of_mem _ h)
      refine ⟨t, back _ h1 ?_, h2⟩
      rintro z
      have z : i = f.i := z
      exact ndk.2 (List.mem_map.mpr ⟨_, h, z⟩)
    · obtain ⟨h0, t, h1⟩ := j.held i (List.mem_cons_of_mem _ h)
      refine ⟨h0, t, back _ h1 ?_⟩
      rintro z
      have z : i = f.i := z
      exact ndk.2 (List.mem_map.mpr ⟨_, h, z⟩)
    · obtain ⟨h0, h1⟩ := j.done i (List.mem_cons_of_mem _ h)
      refine ⟨h0, back _ h1 ?_⟩
      rintro z
      have z : i = f.i := z
      exact ndk.2 (List.mem_map.mpr ⟨_, h, z⟩)
  obtain ⟨new, p⟩ := pump_spec g1.ok g1.nd g1.le
  exact ⟨g1.pump p g1.ok.pump, k1.pump g1 p, by have := p.full; rw [← p.win] at this; exact this⟩
theorem held_keeps {i : Int} (j0 : J0 g ns said came) (fu : Full g) (j : J1 g ns said came th ((.held, i) :: bk)) :
    J0 (g.held i).1 ns said came ∧ J1 (g.held i).1 ns said came (th ++ (g.held i).2) bk ∧ Full (g.held i).1 ∧ (g.held i).2 = [.free i] ∧ (g.held i).1.wait = g.wait := by
  obtain ⟨hin, t, hf⟩ := j.held i List.mem_cons_self
  obtain ⟨l1, l2, e⟩ := fly_at hf
  have pl := place_at j0.nd e
  unfold Gv.held
  rw [pl]
  simp only
  have e' : g.fly.set l1.length ⟨i, 3, none⟩ = l1 ++ ⟨i, 3, none⟩ :: l2 := by rw [e]; exact set_mid l1 l2 _ _
  rw [e']
  have eids : ids (l1 ++ ⟨i, 3, none⟩ :: l2) = ids g.fly := by unfold ids; rw [e]; simp
  have nd0 := j0.nd
  have hbk : bkIds ((Ans.held, i) :: bk) = i :: bkIds bk := rfl
  have ndk : i ∉ thIds th ++ bkIds bk := by
    have h := tok_nd j0 j
    rw [hbk] at h
    exact (List.nodup_cons.mp (List.perm_middle.nodup_iff.mp h)).1
  rw [List.mem_append, not_or] at ndk
  have up : ∀ x ∈ g.fly, x.i ≠ i → x ∈ l1 ++ (⟨i, 3, none⟩ : Fly) :: l2 := fun x hx hne => by
    rw [e] at hx
    rcases List.mem_append.mp hx with hx | hx
    · exact List.mem_append_left _ hx
    · rcases List.mem_cons.mp hx with rfl | hx
      · exact absurd rfl hne
      · exact List.mem_append_right _ (List.mem_cons_of_mem _ hx)
  have m2 : g.fly.filterMap (u2 ns) = (l1 ++ (⟨i, 3, none⟩ : Fly) :: l2).filterMap (u2 ns) := by
    rw [e, List.filterMap_append, List.filterMap_append, List.filterMap_cons_none (show u2 ns ⟨i, 2, some t⟩ = none by unfold u2; rw [if_neg fun z => z.2 hin]), List.filterMap_cons_none (show u2 ns ⟨i, 3, none⟩ = none by unfold u2; split <;> rfl)]
  have m1 : g.fly.filterMap (u1 came) = (l1 ++ (⟨i, 3, none⟩ : Fly) :: l2).filterMap (u1 came) := by
    rw [e, List.filterMap_append, List.filterMap_append, List.filterMap_cons_none (show u1 came ⟨i, 2, some t⟩ = none by unfold u1; simp), List.filterMap_cons_none (show u1 came ⟨i, 3, none⟩ = none from rfl)]
  have len : (l1 ++ (⟨i, 3, none⟩ : Fly) :: l2).length = g.fly.length := by rw [e]; simp
  refine ⟨⟨⟨j0.ok.w1, j0.ok.wm, j0.ok.l0, j0.ok.lm⟩, by show (ids _).Nodup; rw [eids]; exact nd0, by show ((_ : Nat) : Int) ≤ _; rw [len]; exact j0.le, ?_, ?_, j0.wt, by show _ = _ ++ (List.filterMap _ _ ++ _); rw [← m2]; exact j0.two, by show _ = _ ++ (List.filterMap _ _ ++ _); rw [← m1]; exact j0.one, j0.zero, j0.sd, j0.grs, j0.cs⟩, ?_, ?_, by simp⟩
  · intro x hx
    rcases List.mem_append.mp hx with hx | hx
    · exact j0.fl x (by rw [e]; exact List.mem_append_left _ hx)
    · rcases List.mem_cons.mp hx with rfl | hx
      · exact ⟨.inr ⟨rfl, rfl⟩⟩
      · exact j0.fl x (by rw [e]; exact List.mem_append_right _ (List.mem_cons_of_mem _ hx))
  · intro n hn
    obtain ⟨x, hx, ex, h23⟩ := j0.hn n hn
    by_cases hxi : x.i = i
    · exact ⟨⟨i, 3, none⟩, by simp, by rw [← ex, hxi], .inr rfl⟩
    · exact ⟨x, up x hx hxi, ex, h23⟩
  · refine ⟨?_, fun t' r i' h => ?_, fun i' h => ?_, fun i' h => ?_, fun i' h => ?_, fun i' h => ?_, ?_, ?_, ?_⟩
    · show (thIds (th ++ [Sn.free i]) ++ bkIds bk).Perm (ids (l1 ++ ⟨i, 3, none⟩ :: l2))
      rw [eids]
      refine List.Perm.trans ?_ j.tok
      rw [hbk]
      unfold thIds
      rw [List.filterMap_append]
      show ((List.filterMap tokI th ++ [i]) ++ bkIds bk).Perm _
      rw [List.append_assoc]; exact List.Perm.refl _
    · rw [List.mem_append, List.mem_singleton] at h
      rcases h with h | h
      · rcases j.say t' r i' h with h0 | h1
        · exact .inl h0
        · by_cases h0 : t'.g = 0
          · exact .inl h0
          · refine .inr (up _ h1 ?_)
            rintro z
            have z : i' = i := z
            exact ndk.1 (List.mem_filterMap.mpr ⟨_, h, by unfold tokI; simp only; rw [if_neg h0, z]⟩)
      · cases h
    · rw [List.mem_append, List.mem_singleton] at h
      rcases h with h | h
      · refine up _ (j.free i' h) ?_
        rintro z
        have z : i' = i := z
        exact ndk.1 (List.mem_filterMap.mpr ⟨_, h, by unfold tokI; rw [z]⟩)
      · cases h; simp
    · obtain ⟨t', h1, h2⟩ := j.got i' (List.mem_cons_of_mem _ h)
      refine ⟨t', up _ h1 ?_, h2⟩
      rintro z
      have z : i' = i := z
      exact ndk.2 (List.mem_map.mpr ⟨_, h, z⟩)
    · obtain ⟨h0, t', h1⟩ := j.held i' (List.mem_cons_of_mem _ h)
      refine ⟨h0, t', up _ h1 ?_⟩
      rintro z
      have z : i' = i := z
      exact ndk.2 (List.mem_map.mpr ⟨_, h, z⟩)
    · obtain ⟨h0, h1⟩ := j.done i' (List.mem_cons_of_mem _ h)
      refine ⟨h0, up _ h1 ?_⟩
      rintro z
      have z : i' = i := z
      exact ndk.2 (List.mem_map.mpr ⟨_, h, z⟩)
    · show (th ++ [Sn.free i]).filterMap (s2 ns) = List.filterMap (u2 ns) (l1 ++ ⟨i, 3, none⟩ :: l2)
      rw [List.filterMap_append, ← m2, j.k2]; simp [s2]
    · show (th ++ [Sn.free i]).filterMap (s1 came) = List.filterMap (u1 came) (l1 ++ ⟨i, 3, none⟩ :: l2)
      rw [List.filterMap_append, ← m1, j.k1]; simp [s1]
    · rw [List.filterMap_append, show List.filterMap s0 [Sn.free i] = [] from rfl, List.append_nil]; exact j.k0
  · unfold Full at fu ⊢
    rcases fu with h | h
    · exact .inl h
    · refine .inr ?_
      show g.win ≤ ((_ : Nat) : Int)
      rw [len]; exact h
/-- the whole of an answer -/
theorem ans_keeps {w : Ans} {i : Int} (j0 : J0 g ns said came) (fu : Full g) (j : J1 g ns said came th ((w, i) :: bk)) :
    J0 (g.took w i).1 ns said came ∧ J1 (g.took w i).1 ns said came (th ++ (g.took w i).2) bk ∧ Full (g.took w i).1 := by
  cases w with
  | got =>
    obtain ⟨t, hf, hc⟩ := j.got i List.mem_cons_self
    have hns : i ∉ ns := fun hn => by
      obtain ⟨x, hx, ex, h23⟩ := j0.hn i hn
      have := fly_uniq j0.nd hx hf ex
      subst this; simp at h23
    exact over_keeps (f := ⟨i, 1, some t⟩) (.inl ⟨rfl, rfl, t, rfl, hc⟩) hf hns j0 j
  | done =>
    obtain ⟨hns, hf⟩ := j.done i List.mem_cons_self
    exact over_keeps (f := ⟨i, 3, none⟩) (.inr ⟨rfl, rfl⟩) hf hns j0 j
  | held =>
    have k := held_keeps j0 fu j
    exact ⟨k.1, k.2.1, k.2.2.1⟩
/-! ### a new line -/
theorem again_u2 {fs : List Fly} (h : ∀ f ∈ fs, f.Good) : (fs.map Fly.again).filterMap (s2 ns) = fs.filterMap (u2 ns) := by
  rw [List.filterMap_map]
  refine fm_congr fun f hf => ?_
  unfold Fly.again
  simp only [Function.comp]
  rcases (h f hf).g with ⟨t, h1, h2, h3⟩ | ⟨h1, h2⟩
  · unfold u2; rw [h1]; unfold s2; simp only [h2]
  · unfold u2; rw [h2]; unfold s2; simp
theorem again_u1 {fs : List Fly} (h : ∀ f ∈ fs, f.Good) : (fs.map Fly.again).filterMap (s1 came) = fs.filterMap (u1 came) := by
  rw [List.filterMap_map]
  refine fm_congr fun f hf => ?_
  unfold Fly.again
  simp only [Function.comp]
  rcases (h f hf).g with ⟨t, h1, h2, h3⟩ | ⟨h1, h2⟩
  · unfold u1; rw [h1]; unfold s1; simp only [h2]
  · unfold u1; rw [h2]; unfold s1; simp
theorem again_keeps (j0 : J0 g ns said came) : J0 g.again.1 ns said came ∧ J1 g.again.1 ns said came g.again.2 [] ∧ Full g.again.1 := by
  have k : J1 g ns said came (g.fly.map Fly.again) [] := by
    refine ⟨?_, ?_, ?_, (fun i h => by cases h), (fun i h => by cases h), (fun i h => by cases h), again_u2 j0.fl, again_u1 j0.fl, ?_⟩
    · have e : thIds (g.fly.map Fly.again) = ids g.fly := by
        unfold thIds ids
        rw [List.filterMap_map]
        have : g.fly.filterMap (tokI ∘ Fly.again) = g.fly.filterMap (fun f => some f.i) := fm_congr fun f hf => by
          simp only [Function.comp]
          unfold Fly.again
          rcases (j0.fl f hf).g with ⟨t, h1, h2, h3⟩ | ⟨h1, h2⟩
          · rw [h1]; unfold tokI; simp only; rw [if_neg (by omega)]
          · rw [h2]; rfl
        rw [this]; simp
      rw [e]; simp [bkIds]
    · intro t r i h
      obtain ⟨f, hf, e⟩ := List.mem_map.mp h
      unfold Fly.again at e
      rcases (j0.fl f hf).g with ⟨t', h1, h2, h3⟩ | ⟨h1, h2⟩
      · rw [h1] at e
        cases e
        refine .inr ?_
        obtain ⟨fi, fg, ft⟩ := f
        simp only at h1 h2
        subst h1
        rw [← h2] at hf
        exact hf
      · rw [h2] at e; cases e
    · intro i h
      obtain ⟨f, hf, e⟩ := List.mem_map.mp h
      unfold Fly.again at e
      rcases (j0.fl f hf).g with ⟨t', h1, h2, h3⟩ | ⟨h1, h2⟩
      · rw [h1] at e; cases e
      · rw [h2] at e
        cases e
        obtain ⟨fi, fg, ft⟩ := f
        simp only at h1 h2
        subst h1 h2
        exact hf
    · have : (g.fly.map Fly.again).filterMap s0 = [] := by
        rw [List.filterMap_eq_nil_iff]
        intro s hs
        obtain ⟨f, hf, rfl⟩ := List.mem_map.mp hs
        unfold Fly.again
        rcases (j0.fl f hf).g with ⟨t', h1, h2, h3⟩ | ⟨h1, h2⟩
        · rw [h1]; unfold s0; simp only; rw [if_neg (by omega)]
        · rw [h2]; rfl
      rw [this, List.append_nil]; exact j0.zero
  obtain ⟨new, p⟩ := pump_spec j0.ok j0.nd j0.le
  exact ⟨j0.pump p j0.ok.pump, k.pump j0 p, by have := p.full; rw [← p.win] at this; exact this⟩
end
/-! ### how far it is -/
def wSn : Sn → Nat
  | .say t _ _ => if t.g = 0 then 1 else if t.g = 1 then 2 else 4
  | .free _ => 2
def wAn : Ans × Int → Nat
  | (.got, _) => 1
  | (.held, _) => 3
  | (.done, _) => 1
def wTd (t : Tid) : Nat := if t.g = 1 then 2 else 4
def far (g : Gv) (th : List Sn) (bk : List (Ans × Int)) : Nat := (th.map wSn).sum + (bk.map wAn).sum + (g.wait.map wTd).sum
theorem pump_far {g g' : Gv} {out : List Sn} {new : List (Int × Tid)} (p : PumpR g g' out new) (h : ∀ t ∈ g.wait, t.g = 1 ∨ t.g = 2) : (out.map wSn).sum + (g'.wait.map wTd).sum = (g.wait.map wTd).sum := by
  rw [p.wait, p.out, List.map_append, List.sum_append]
  have : ((new.map nSn).map wSn) = ((new.map (·.2)).map wTd) := by
    rw [List.map_map, List.map_map]
    apply List.map_congr_left
    intro q hq
    have := h q.2 (by rw [p.wait]; exact List.mem_append_left _ (List.mem_map.mpr ⟨q, hq, rfl⟩))
    simp only [Function.comp, nSn, wSn, wTd]
    rw [if_neg (by omega)]
  rw [this]
section
variable {g : Gv} {ns : List Int} {said came : List Tid} {th : List Sn} {bk : List (Ans × Int)}
theorem took_far {x : Sn} (j0 : J0 g ns said came) (j : J1 g ns said came (x :: th) bk) : far g th (bk ++ oL (tkTook ns x).1) + 1 = far g (x :: th) bk := by
  unfold far
  rw [List.map_append, List.sum_append, List.map_cons, List.sum_cons]
  have e : ((oL (tkTook ns x).1).map wAn).sum + 1 = wSn x := by
    cases x with
    | free i => rfl
    | say t r i =>
      unfold tkTook wSn
      by_cases h0 : t.g = 0
      · simp [h0, oL]
      · by_cases h1 : t.g = 1
        · simp [h0, h1, oL, wAn]
        · by_cases hc : i ∈ ns
          · simp [h0, h1, hc, oL, wAn]
          · simp [h0, h1, hc, oL, wAn]
  omega
theorem ans_far {w : Ans} {i : Int} (j0 : J0 g ns said came) (fu : Full g) (j : J1 g ns said came th ((w, i) :: bk)) : far (g.took w i).1 (th ++ (g.took w i).2) bk + 1 = far g th ((w, i) :: bk) := by
  have ov : ∀ f : Fly, f ∈ g.fly → far (g.over f.i f.g).1 (th ++ (g.over f.i f.g).2) bk = far g th bk := by
    intro f hf
    obtain ⟨l1, l2, e⟩ := fly_at hf
    unfold Gv.over
    rw [place_at j0.nd e]
    simp only
    have nd0 := j0.nd
    have le0 := j0.le
    have e' : g.fly.eraseIdx l1.length = l1 ++ l2 := by rw [e]; exact erase_mid l1 l2 f
    rw [e']
    rw [e] at nd0 le0
    unfold ids at nd0
    rw [List.map_append, List.map_cons] at nd0
    have hmid := List.nodup_append.mp nd0
    obtain ⟨new, p⟩ := pump_spec (g := { g with fly := l1 ++ l2 }) ⟨j0.ok.w1, j0.ok.wm, j0.ok.l0, j0.ok.lm⟩ (by
      unfold ids
      simp only [List.map_append]
      rw [List.nodup_append]
      exact ⟨hmid.1, (List.nodup_cons.mp hmid.2.1).2, fun a ha b hb => hmid.2.2 a ha b (List.mem_cons_of_mem _ hb)⟩) (by simp at le0 ⊢; omega)
    have k := pump_far p j0.wt
    unfold far
    rw [List.map_append, List.sum_append]
    simp only at k
    omega
  cases w with
  | got =>
    obtain ⟨t, hf, hc⟩ := j.got i List.mem_cons_self
    have k := ov ⟨i, 1, some t⟩ hf
    show far (g.over i 1).1 (th ++ (g.over i 1).2) bk + 1 = _
    rw [k]
    unfold far
    rw [List.map_cons, List.sum_cons]
    show _ = _ + (1 + _) + _
    omega
  | done =>
    obtain ⟨hns, hf⟩ := j.done i List.mem_cons_self
    have k := ov ⟨i, 3, none⟩ hf
    show far (g.over i 3).1 (th ++ (g.over i 3).2) bk + 1 = _
    rw [k]
    unfold far
    rw [List.map_cons, List.sum_cons]
    show _ = _ + (1 + _) + _
    omega
  | held =>
    obtain ⟨_, _, _, h1, h2⟩ := held_keeps j0 fu j
    show far (g.held i).1 (th ++ (g.held i).2) bk + 1 = _
    unfold far
    rw [h1, h2, List.map_append, List.sum_append]
    have e1 : ([Sn.free i].map wSn).sum = 2 := rfl
    have e2 : (((Ans.held, i) :: bk).map wAn).sum = 3 + (bk.map wAn).sum := by rw [List.map_cons, List.sum_cons]; rfl
    omega
theorem again_far (j0 : J0 g ns said came) : far g.again.1 g.again.2 [] ≤ 4 * (g.fly.length + g.wait.length) := by
  obtain ⟨new, p⟩ := pump_spec j0.ok j0.nd j0.le
  have k := pump_far p j0.wt
  have a : ∀ fs : List Fly, ((fs.map Fly.again).map wSn).sum ≤ 4 * fs.length := by
    intro fs
    induction fs with
    | nil => simp
    | cons f fs ih =>
      have : wSn f.again ≤ 4 := by
        unfold Fly.again
        cases f.t with
        | none => unfold wSn; simp
        | some t => unfold wSn; simp only; split <;> (try split) <;> omega
      simp only [List.map_cons, List.sum_cons, List.length_cons]; omega
  have b : ∀ ts : List Tid, (ts.map wTd).sum ≤ 4 * ts.length := by
    intro ts
    induction ts with
    | nil => simp
    | cons t ts ih =>
      have : wTd t ≤ 4 := by unfold wTd; split <;> omega
      simp only [List.map_cons, List.sum_cons, List.length_cons]; omega
  unfold far Gv.again
  simp only
  rw [List.map_append, List.sum_append]
  have := a g.fly
  have := b g.wait
  simp only [List.map_nil, List.sum_nil]
  omega
/-- nothing on the line: nothing under way, nothing waits -/
theorem far_zero (j0 : J0 g ns said came) (fu : Full g) (j : J1 g ns said came [] []) : g.fly = [] ∧ g.wait = [] := by
  have h := j.tok.length_eq
  have hf : g.fly = [] := by
    unfold ids at h
    simp [thIds, bkIds] at h
    cases hx : g.fly with
    | nil => rfl
    | cons a l => rw [hx] at h; simp at h
  refine ⟨hf, ?_⟩
  rcases fu with h | h
  · exact h
  · rw [hf] at h
    have := j0.ok.w1
    simp at h; omega
/-- .. and all that was promised came -/
theorem far_end (j0 : J0 g ns said came) (hf : g.fly = []) (hw : g.wait = []) : gr 2 came = gr 2 said ∧ firsts (gr 1 came) = gr 1 said ∧ (gr 0 came).Sublist (gr 0 said) := by
  have h2 := j0.two
  have h1 := j0.one
  rw [hf, hw] at h2 h1
  simp [gr] at h2 h1
  refine ⟨?_, ?_, j0.zero⟩
  · unfold gr; exact h2.symm
  · unfold gr; exact h1.symm
end
end TH.Q
end
section
set_option linter.all false
set_option autoImplicit false
/-! TL4: tidings as data; lists of them. Plain Lean. -/
namespace TH.Q
open TH
structure Tid.Pu (t : Tid) : Prop where
  n : ∀ c ∈ t.n, c < 55296
  b : ∀ c ∈ t.b, c < 55296
theorem tid_pu {t : Tid} (h : t.Pu) (k : Nat) : t.d.pu (k + 1) = true := by
  simp only [Tid.d, D.pu, List.all_cons, List.all_nil, Bool.and_true, Bool.and_eq_true, List.all_eq_true, decide_eq_true_eq]
  exact ⟨h.n, h.b⟩
theorem tid_eqv (a b : Tid) : a.d.eqv b.d = decide (a = b) := by
  obtain ⟨n, b', g, k⟩ := a
  obtain ⟨m, c', h, l⟩ := b
  simp only [Tid.d, D.eqv, D.eqvL, Bool.and_true]
  rw [Bool.eq_iff_iff]
  simp only [Bool.and_eq_true, beq_iff_eq, decide_eq_true_eq, Tid.mk.injEq]
theorem tids_eqv (a b : List Tid) : D.eqvL (a.map Tid.d) (b.map Tid.d) = decide (a = b) := by
  induction a generalizing b with
  | nil => cases b <;> simp [D.eqvL]
  | cons x a ih =>
    cases b with
    | nil => simp [D.eqvL]
    | cons y b =>
      simp only [List.map_cons, D.eqvL]
      rw [ih, tid_eqv, Bool.eq_iff_iff]; simp
theorem tids_all {l : List Tid} (h : ∀ t ∈ l, t.Pu) (k : Nat) : (l.map Tid.d).all (D.pu (k + 1)) = true := by
  rw [List.all_eq_true]
  intro x hx
  obtain ⟨t, ht, rfl⟩ := List.mem_map.mp hx
  exact tid_pu (h t ht) k
theorem tids_pu {l : List Tid} (h : ∀ t ∈ l, t.Pu) (k : Nat) : (D.lst (l.map Tid.d)).pu (k + 2) = true := by
  simp only [D.pu]; exact tids_all h k
theorem oIn_tids {t : Tid} {l : List Tid} {st : St} (ht : t.Pu) (hl : ∀ t ∈ l, t.Pu) : oIn t.d (.lst (l.map Tid.d)) st = some (.bl (decide (t ∈ l))) := by
  rw [oIn_pu rfl (tid_pu ht 19) (tids_all hl 19)]
  congr 2
  rw [List.any_map, Bool.eq_iff_iff]
  simp only [List.any_eq_true, Function.comp, tid_eqv, decide_eq_true_eq]
  exact ⟨fun ⟨x, h1, h2⟩ => h2 ▸ h1, fun h => ⟨t, h, rfl⟩⟩
theorem oNotIn_tids {t : Tid} {l : List Tid} {st : St} (ht : t.Pu) (hl : ∀ t ∈ l, t.Pu) : oNotIn t.d (.lst (l.map Tid.d)) st = some (.bl (!decide (t ∈ l))) := oNotIn_of (oIn_tids ht hl)
theorem oEq_tids {a b : List Tid} {st : St} (ha : ∀ t ∈ a, t.Pu) (hb : ∀ t ∈ b, t.Pu) : oEq (.lst (a.map Tid.d)) (.lst (b.map Tid.d)) st = some (.bl (decide (a = b))) := by
  show (eqD (.lst _) (.lst _)).map D.bl = _
  rw [oEq_pu (st := st) (tids_pu ha 18) (tids_pu hb 18)]
  show some (D.bl (D.eqvL _ _)) = _
  rw [tids_eqv]
theorem oNe_tids {a b : List Tid} {st : St} (ha : ∀ t ∈ a, t.Pu) (hb : ∀ t ∈ b, t.Pu) : oNe (.lst (a.map Tid.d)) (.lst (b.map Tid.d)) st = some (.bl (!decide (a = b))) := oNe_of (oEq_tids ha hb)
/-- the places of first ones -/
def fstAt (l : List Tid) (k : Nat) : Bool := match l[k]? with
  | some t => !decide (t ∈ l.take k)
  | none => false
theorem firsts_at (l : List Tid) : ((List.range l.length).filter (fstAt l)).map (fun k => l[k]?.getD default) = firsts l := by
  induction l using snoc_ind with
  | h0 => rfl
  | h1 l t ih =>
    rw [firsts_snoc, List.length_append, List.length_singleton, List.range_succ, List.filter_append, List.map_append]
    have e1 : (List.range l.length).filter (fstAt (l ++ [t])) = (List.range l.length).filter (fstAt l) := by
      apply List.filter_congr
      intro k hk
      have hk := List.mem_range.mp hk
      unfold fstAt
      rw [List.getElem?_append_left hk, List.take_append_of_le_length (by omega)]
    have e2 : ((List.range l.length).filter (fstAt l)).map (fun k => (l ++ [t])[k]?.getD default) = firsts l := by
      rw [← ih]
      apply List.map_congr_left
      intro k hk
      have hk := List.mem_range.mp (List.mem_filter.mp hk).1
      rw [List.getElem?_append_left hk]
    have e3 : fstAt (l ++ [t]) l.length = !decide (t ∈ firsts l) := by
      unfold fstAt
      rw [List.getElem?_append_right (Nat.le_refl _), List.take_left' rfl]
      simp [mem_firsts]
    rw [e1, e2]
    by_cases h : t ∈ firsts l
    · simp [e3, h]
    · simp [e3, h]
theorem firsts_nodup {l : List Tid} (h : l.Nodup) : firsts l = l := by
  induction l using snoc_ind with
  | h0 => rfl
  | h1 l t ih =>
    rw [List.nodup_append] at h
    rw [firsts_snoc, ih h.1, if_neg fun z => h.2.2 t z t (by simp) rfl]
theorem sub_filter {a b : List Tid} (h : a.Sublist b) (nd : b.Nodup) : b.filter (fun t => decide (t ∈ a)) = a := by
  induction h with
  | slnil => rfl
  | @cons l1 l2 x h ih =>
    rw [List.nodup_cons] at nd
    have hx : x ∉ l1 := fun z => nd.1 (h.subset z)
    rw [List.filter_cons_of_neg (by simpa using hx), ih nd.2]
  | @cons_cons l1 l2 x h ih =>
    rw [List.nodup_cons] at nd
    rw [List.filter_cons_of_pos (by simp)]
    congr 1
    rw [← ih nd.2]
    apply List.filter_congr
    intro y hy
    have : y ≠ x := by rintro rfl; exact nd.1 hy
    have e := ih nd.2
    rw [e]
    simp [this]
/-- what the law's own look asks of what came -/
structure Kept (said came : List Tid) : Prop where
  two : gr 2 came = gr 2 said
  one : firsts (gr 1 came) = gr 1 said
  zero : (gr 0 came).Sublist (gr 0 said)
  sd : said.Nodup
  cs : ∀ t ∈ came, t ∈ said
  ps : ∀ t ∈ said, t.Pu
end TH.Q
end
section
end
section
set_option linter.all false
set_option autoImplicit false
/-! R_k32: the known small functions (printed by gen.py). -/
namespace TH.k32
open TH TH.Q
theorem r__law_cell (ns : List Int) (k : Nat) : CellF (run (k + 1) 200) ns := g_cell ns
theorem r__law_mix (ns : List Int) (k : Nat) : MixF (run (k + 2) 201) ns := g_mix (r__law_cell ns (k + 0))
theorem r__law_draw (ns : List Int) (k : Nat) : DrawF (run (k + 3) 202) ns := g_draw (r__law_mix ns (k + 0))
end TH.k32
end
section
set_option linter.all false
set_option autoImplicit false
/-! M_k32: the plain law. -/
namespace TH.k32
open TH TH.Q
theorem gG : HasGv G := ⟨rfl, rfl, rfl, rfl, rfl, rfl, rfl, rfl, rfl⟩
theorem gT : HasTk G := ⟨rfl⟩
/-! ### the law's own look at what came -/
theorem comp_grade {n : Nat} {l : List Tid} {g : Int} {st : St} {e2 e3 e4 e5 e6 e8 : Option D} {sd cm : Nat} (hg : e2 = some (.int g)) (h : st[n]? = some (.ml (l.map Tid.d))) (hl : l.length < 100000) :
    cObj (.name 7) (some (xBin oEq (xBin oIx (xVar 7) (xC (.int 2))) (xVar 2))) (xVar 7) [some (.ref sd), some (.ref cm), e2, e3, e4, e5, e6, none, e8] n FU 0 [] st = .ok ((gr g l).map Tid.d) st := by
  subst hg
  refine cObj_filter (f := Tid.d) (g := Tid.d) (p := fun t => t.g == g) (l := l) h (fun t _ => ⟨_, put_name _ _ _ _, ⟨.bl (t.g == g), by simp [Tid.d], rfl⟩, fun _ => by simp⟩) hl
theorem good_turn (k : Nat) {st : St} {sd cm : Nat} {said came : List Tid} (hs : st[sd]? = some (.ml (said.map Tid.d))) (hc : st[cm]? = some (.ml (came.map Tid.d))) (K : Kept said came) (l1 : said.length < 5000) (l2 : came.length < 5000) (g : Int) (hg : g = 0 ∨ g = 1 ∨ g = 2) (e3 e4 e5 e6 e7 e8 : Option D) :
    ∃ f3 f4 f5 f6 f7 f8, L__law_good_1b (run k) [some (.ref sd), some (.ref cm), some (.int g), e3, e4, e5, e6, e7, e8] st = .nx [some (.ref sd), some (.ref cm), some (.int g), f3, f4, f5, f6, f7, f8] st := by
  unfold L__law_good_1b L__law_good_1b_1 L__law_good_1b_2 L__law_good_1b_3 L__law_good_1b_4 L__law_good_1b_5 L__law_good_1b_6
  have pm : ∀ t ∈ gr g said, t.Pu := fun t h => K.ps t (List.mem_filter.mp h).1
  have pc : ∀ t ∈ came, t.Pu := fun t h => K.ps t (K.cs t h)
  have pi : ∀ t ∈ gr g came, t.Pu := fun t h => pc t (List.mem_filter.mp h).1
  have li : (gr g came).length ≤ came.length := List.length_filter_le _ _
  have lm : (gr g said).length ≤ said.length := List.length_filter_le _ _
  have c1 := fun e3 e4 e5 e6 e8 => comp_grade (e2 := some (.int g)) (e3 := e3) (e4 := e4) (e5 := e5) (e6 := e6) (e8 := e8) (sd := sd) (cm := cm) rfl hs (by omega)
  have c2 := fun e3 e4 e5 e6 e8 => comp_grade (e2 := some (.int g)) (e3 := e3) (e4 := e4) (e5 := e5) (e6 := e6) (e8 := e8) (sd := sd) (cm := cm) rfl hc (by omega)
  have c3 : ∀ e5 e6 e7, cData (.name 8) (some (xBin oNotIn (xBin oIx (xVar 4) (xVar 8)) (xLst (lSl (xVar 4) none (some (xVar 8)))))) (xBin oIx (xVar 4) (xVar 8)) [some (.ref sd), some (.ref cm), some (.int g), some (.lst ((gr g said).map Tid.d)), some (.lst ((gr g came).map Tid.d)), e5, e6, e7, none] ((List.range (gr g came).length).map fun (k : Nat) => D.int (k : Int)) [] st = .ok ((firsts (gr g came)).map Tid.d) st := by
    intro e5 e6 e7
    rw [cData_filter (fun (k : Nat) => D.int (k : Int)) (fun k => ((gr g came)[k]?.getD default).d) (fstAt (gr g came))]
    · rw [List.nil_append, ← firsts_at, List.map_map]; rfl
    · intro j hj
      have hj := List.mem_range.mp hj
      have hx : ∀ st : St, oIx (.lst ((gr g came).map Tid.d)) (.int (j : Int)) st = some ((gr g came)[j]).d := fun st => by
        rw [oIx_lst]; simp [List.getElem?_eq_getElem hj]
      refine ⟨_, put_name _ _ _ _, ⟨.bl (fstAt (gr g came) j), ?_, rfl⟩, fun _ => ?_⟩
      · have hn : ∀ st : St, oNotIn ((gr g came)[j]).d (.lst (((gr g came).take j).map Tid.d)) st = some (.bl (!decide ((gr g came)[j] ∈ (gr g came).take j))) := fun st => oNotIn_tids (pi _ (List.getElem_mem _)) fun t ht => pi t (List.mem_of_mem_take ht)
        have hx := hx st
        have hn := hn st
        rw [List.map_take] at hn
        simp only [ap_bin, ap_bin1, ap_bin2, ap_var, ap_xlst, ap_sl, ap_sl1, ap_sl2, ap_sl3, ap_prtn, ap_prts, ap_prt1, bind_ok, asL_lst, slK_some, ap_val1, cut_take, List.set_cons_succ, List.set_cons_zero, List.getElem?_cons_succ, get_zero, get_one, get_two, vr_some, hx, ofO_some, hn]
        unfold fstAt
        rw [List.getElem?_eq_getElem hj]
      · have hx := hx st
        simp [hx, List.getElem?_eq_getElem hj]
    · simp; omega
  have c5 : ∀ e5 e6 e8, cData (.name 7) (some (xBin oIn (xVar 7) (xVar 4))) (xVar 7) [some (.ref sd), some (.ref cm), some (.int g), some (.lst ((gr g said).map Tid.d)), some (.lst ((gr g came).map Tid.d)), e5, e6, none, e8] ((gr g said).map Tid.d) [] st = .ok (((gr g said).filter fun t => decide (t ∈ gr g came)).map Tid.d) st := by
    intro e5 e6 e8
    rw [cData_filter Tid.d Tid.d (fun t => decide (t ∈ gr g came))]
    · rfl
    · intro t ht
      have hn := oIn_tids (st := st) (pm t ht) pi
      exact ⟨_, put_name _ _ _ _, ⟨.bl (decide (t ∈ gr g came)), by simp [hn], rfl⟩, fun _ => by simp⟩
    · simp; omega
  have hr : rng1 (.int ((gr g came).length : Int)) st = .ok (.data ((List.range (gr g came).length).map fun (k : Nat) => D.int (k : Int))) st := rng1_ok (by omega)
  have n1 : oNe (.lst ((gr g came).map Tid.d)) (.lst ((gr g said).map Tid.d)) st = some (.bl (!decide (gr g came = gr g said))) := oNe_tids pi pm
  have pf : ∀ t ∈ firsts (gr g came), t.Pu := fun t h => pi t ((mem_firsts _).mp h)
  have n2 : oNe (.lst ((firsts (gr g came)).map Tid.d)) (.lst ((gr g said).map Tid.d)) st = some (.bl (!decide (firsts (gr g came) = gr g said))) := oNe_tids pf pm
  have n3 : oNe (.lst ((gr g came).map Tid.d)) (.lst ((firsts (gr g came)).map Tid.d)) st = some (.bl (!decide (gr g came = firsts (gr g came)))) := oNe_tids pi pf
  have n4 : oNe (.lst ((gr g came).map Tid.d)) (.lst (((gr g said).filter fun t => decide (t ∈ gr g came)).map Tid.d)) st = some (.bl (!decide (gr g came = (gr g said).filter fun t => decide (t ∈ gr g came)))) := oNe_tids pi fun t h => pm t (List.mem_filter.mp h).1
  refine ⟨some (.lst ((gr g said).map Tid.d)), some (.lst ((gr g came).map Tid.d)), some (.lst ((firsts (gr g came)).map Tid.d)), some (.lst (((gr g said).filter fun t => decide (t ∈ gr g came)).map Tid.d)), e7, e8, ?_⟩
  simp [hs, hc, c1, c2]
  rw [hr]
  simp [c3]
  rcases hg with rfl | rfl | rfl
  · have z := K.zero
    have nd : (gr 0 said).Nodup := K.sd.filter _
    have z1 : gr 0 came = firsts (gr 0 came) := (firsts_nodup (z.nodup nd)).symm
    have z2 : gr 0 came = (gr 0 said).filter fun t => decide (t ∈ gr 0 came) := (sub_filter z nd).symm
    have n3 := n3.trans (congrArg (fun b => some (D.bl (!b))) (decide_eq_true z1))
    have n4 := n4.trans (congrArg (fun b => some (D.bl (!b))) (decide_eq_true z2))
    simp [n1, n2, n3, n4, c5]
  · have n2 := n2.trans (congrArg (fun b => some (D.bl (!b))) (decide_eq_true K.one))
    simp [n1, n2, n3, n4, c5]
  · have n1 := n1.trans (congrArg (fun b => some (D.bl (!b))) (decide_eq_true K.two))
    simp [n1, n2, n3, n4, c5]
theorem good_ok (k : Nat) {st : St} {sd cm : Nat} {said came : List Tid} (hs : st[sd]? = some (.ml (said.map Tid.d))) (hc : st[cm]? = some (.ml (came.map Tid.d))) (K : Kept said came) (l1 : said.length < 5000) (l2 : came.length < 5000) :
    run (k + 1) 204 [.ref sd, .ref cm] st = .ok (.bl true) st := by
  have hrun : run (k + 1) 204 [.ref sd, .ref cm] st = fin (L__law_good (run k) [some (.ref sd), some (.ref cm), none, none, none, none, none, none, none] st) := rfl
  rw [hrun]
  unfold L__law_good L__law_good_1 L__law_good_2
  have hr : rng1 (.int 3) st = .ok (.data ((List.range 3).map fun (k : Nat) => D.int (k : Int))) st := rng1_ok (n := 3) (by omega)
  obtain ⟨env', st', x, e2, e3, e4, e5, e6, e7, e8, rfl, rfl⟩ := fData_inv (t := .name 2) (b := L__law_good_1b (run k)) (fun (k : Nat) => D.int (k : Int)) (fun _ env st' => ∃ e2 e3 e4 e5 e6 e7 e8, env = [some (.ref sd), some (.ref cm), e2, e3, e4, e5, e6, e7, e8] ∧ st' = st) (List.range 3) [some (.ref sd), some (.ref cm), none, none, none, none, none, none, none] st ⟨_, _, _, _, _, _, _, rfl, rfl⟩
    (by
      rintro a ha n env st' ⟨e2, e3, e4, e5, e6, e7, e8, rfl, rfl⟩
      have ha := List.mem_range.mp ha
      obtain ⟨f3, f4, f5, f6, f7, f8, x⟩ := good_turn k hs hc K l1 l2 (a : Int) (by omega) e3 e4 e5 e6 e7 e8
      exact ⟨_, _, st', rfl, x, _, _, _, _, _, _, _, rfl, rfl⟩)
  have pc : ∀ t ∈ came, t.Pu := fun t h => K.ps t (K.cs t h)
  have c1 : cObj (.name 7) (some (xBin oIn (xVar 7) (xVar 0))) (xVar 7) [some (.ref sd), some (.ref cm), e2, e3, e4, e5, e6, none, e8] cm FU 0 [] st' = .ok (came.map Tid.d) st' := by
    rw [cObj_filter (f := Tid.d) (g := Tid.d) (p := fun t => decide (t ∈ said)) (l := came) (hm := hc) (h := ?h) (hl := by omega)]
    case h =>
      intro t ht
      have hn : oIn t.d (.ref sd) st' = some (.bl (decide (t ∈ said))) := (oIn_ref (by rw [hs]; rfl)).trans (oIn_tids (pc t ht) K.ps)
      exact ⟨_, put_name _ _ _ _, ⟨.bl (decide (t ∈ said)), by simp [hn], rfl⟩, fun _ => by simp⟩
    have : came.filter (fun t => decide (t ∈ said)) = came := List.filter_eq_self.mpr fun t ht => by simpa using K.cs t ht
    rw [this]
  simp [hr]
  rw [x]
  simp [hc, c1]
/-! ### the line in the store -/
def ansL (l : List (Ans × Int)) : List D := l.map fun p => ansD p.1 p.2
structure Wd (st : St) (t p a b q c th bk sd cm : Nat) (g : Gv) (ns : List Int) (there : List Sn) (back : List (Ans × Int)) (said came : List Tid) : Prop where
  tw : TW t st
  gv : GvI p a b g st
  tk : TkI q c ns st
  th_ : st[th]? = some (.ml (there.map Sn.d))
  bk_ : st[bk]? = some (.ml (ansL back))
  sd_ : st[sd]? = some (.ml (said.map Tid.d))
  cm_ : st[cm]? = some (.ml (came.map Tid.d))
  nd : [0, p, a, b, q, c, th, bk, sd, cm].Nodup
section
variable {st : St} {t p a b q c th bk sd cm : Nat} {g : Gv} {ns : List Int} {there : List Sn} {back : List (Ans × Int)} {said came : List Tid}
theorem Wd.lt (w : Wd st t p a b q c th bk sd cm g ns there back said came) : ∀ y ∈ [0, p, a, b, q, c, th, bk, sd, cm], y < st.length := by
  have h0 := get_lt w.tw
  have h1 := get_lt w.gv.ob
  have h2 := get_lt w.gv.wt
  have h3 := get_lt w.gv.fl
  have h4 := get_lt w.tk.ob
  have h5 := get_lt w.tk.ls
  have h6 := get_lt w.th_
  have h7 := get_lt w.bk_
  have h8 := get_lt w.sd_
  have h9 := get_lt w.cm_
  intro y hy
  simp only [List.mem_cons, List.not_mem_nil, or_false] at hy
  rcases hy with rfl | rfl | rfl | rfl | rfl | rfl | rfl | rfl | rfl | rfl <;> assumption
theorem Wd.nd2 (w : Wd st t p a b q c th bk sd cm g ns there back said came) : [cm, sd, bk, th, c, q, b, a, p, 0].Nodup := by
  have h : ([0, p, a, b, q, c, th, bk, sd, cm] : List Nat).reverse.Pairwise (· ≠ ·) := List.pairwise_reverse.mpr (w.nd.imp fun h => Ne.symm h)
  exact h
/-- the town alone has changed -/
theorem Wd.fr {st' : St} {t' : Nat} (w : Wd st t p a b q c th bk sd cm g ns there back said came) (f : Fr0 st st') (tw : TW t' st') : Wd st' t' p a b q c th bk sd cm g ns there back said came := by
  have nd := w.nd
  have hp : ∀ j : Nat, j ≠ 0 → st'[j]? = st[j]? := fun j h => by
    obtain ⟨i, rfl⟩ : ∃ i, j = i + 1 := ⟨j - 1, by omega⟩
    exact f.at_ i
  simp only [List.nodup_cons, List.mem_cons, List.not_mem_nil, or_false, not_or, List.nodup_nil, and_true, not_false_eq_true] at nd
  obtain ⟨⟨n1, n2, n3, n4, n5, n6, n7, n8, n9⟩, _⟩ := nd
  exact ⟨tw, w.gv.keep fun j hj => hp j (by rcases hj with rfl | rfl | rfl <;> omega), w.tk.keep fun j hj => hp j (by rcases hj with rfl | rfl <;> omega),
    (hp _ (Ne.symm n6)).trans w.th_, (hp _ (Ne.symm n7)).trans w.bk_, (hp _ (Ne.symm n8)).trans w.sd_, (hp _ (Ne.symm n9)).trans w.cm_, w.nd⟩
/-- the giver has done something -/
theorem Wd.gvp {st' : St} {a' b' : Nat} {g' : Gv} (w : Wd st t p a b q c th bk sd cm g ns there back said came) (h : GvP p a b g' st st' a' b') (hab : a' ≠ b') : Wd st' t p a' b' q c th bk sd cm g' ns there back said came := by
  have nd := w.nd
  have nd2 := w.nd2
  have lt := w.lt
  have n1 : [0, p, a', b, q, c, th, bk, sd, cm].Nodup := nd_new (l1 := [0, p]) nd lt h.ha
  have n2 : [0, p, a', b', q, c, th, bk, sd, cm].Nodup := by
    rcases h.hb with rfl | hb
    · exact n1
    · have m : [0, p, a, b', q, c, th, bk, sd, cm].Nodup := nd_new (l1 := [0, p, a]) nd lt (.inr hb)
      rcases h.ha with rfl | ha
      · exact m
      · have n1' := n1
        have m' := m
        simp only [List.nodup_cons, List.mem_cons, List.not_mem_nil, or_false, not_or, List.nodup_nil, and_true, not_false_eq_true] at n1' m' ⊢
        simp only [n1', m', hab, not_false_eq_true, and_self]
  simp only [List.nodup_cons, List.mem_cons, List.not_mem_nil, or_false, not_or, List.nodup_nil, and_true, not_false_eq_true] at nd nd2
  exact ⟨h.s.get w.tw (by simp [nd, nd2]), h.i, w.tk.stp h.s (by simp [nd, nd2]) (by simp [nd, nd2]), h.s.get w.th_ (by simp [nd, nd2]), h.s.get w.bk_ (by simp [nd, nd2]), h.s.get w.sd_ (by simp [nd, nd2]), h.s.get w.cm_ (by simp [nd, nd2]), n2⟩
theorem Wd.tkp {st' : St} {c' : Nat} {ns' : List Int} (w : Wd st t p a b q c th bk sd cm g ns there back said came) (h : TkI q c' ns' st') (hc : c' = c ∨ st.length ≤ c') (s : Stp [q, c] st st') : Wd st' t p a b q c' th bk sd cm g ns' there back said came := by
  have nd := w.nd
  have nd2 := w.nd2
  have lt := w.lt
  have n1 : [0, p, a, b, q, c', th, bk, sd, cm].Nodup := nd_new (l1 := [0, p, a, b, q]) nd lt hc
  simp only [List.nodup_cons, List.mem_cons, List.not_mem_nil, or_false, not_or, List.nodup_nil, and_true, not_false_eq_true] at nd nd2
  exact ⟨s.get w.tw (by simp [nd, nd2]), w.gv.stp s (by simp [nd, nd2]) (by simp [nd, nd2]) (by simp [nd, nd2]), h, s.get w.th_ (by simp [nd, nd2]), s.get w.bk_ (by simp [nd, nd2]), s.get w.sd_ (by simp [nd, nd2]), s.get w.cm_ (by simp [nd, nd2]), n1⟩
/-- one of the four lists is another -/
theorem Wd.sth (w : Wd st t p a b q c th bk sd cm g ns there back said came) (l : List Sn) : Wd (st.set th (.ml (l.map Sn.d))) t p a b q c th bk sd cm g ns l back said came := by
  have nd := w.nd
  have nd2 := w.nd2
  have s : Stp [th] st (st.set th (.ml (l.map Sn.d))) := Stp.set _ (by simp)
  have e := List.getElem?_set_self (l := st) (a := Ob.ml (l.map Sn.d)) (get_lt w.th_)
  simp only [List.nodup_cons, List.mem_cons, List.not_mem_nil, or_false, not_or, List.nodup_nil, and_true, not_false_eq_true] at nd nd2
  exact ⟨s.get w.tw (by simp [nd, nd2]), w.gv.stp s (by simp [nd, nd2]) (by simp [nd, nd2]) (by simp [nd, nd2]), w.tk.stp s (by simp [nd, nd2]) (by simp [nd, nd2]), e, s.get w.bk_ (by simp [nd, nd2]), s.get w.sd_ (by simp [nd, nd2]), s.get w.cm_ (by simp [nd, nd2]), w.nd⟩
theorem Wd.sbk (w : Wd st t p a b q c th bk sd cm g ns there back said came) (l : List (Ans × Int)) : Wd (st.set bk (.ml (ansL l))) t p a b q c th bk sd cm g ns there l said came := by
  have nd := w.nd
  have nd2 := w.nd2
  have s : Stp [bk] st (st.set bk (.ml (ansL l))) := Stp.set _ (by simp)
  have e := List.getElem?_set_self (l := st) (a := Ob.ml (ansL l)) (get_lt w.bk_)
  simp only [List.nodup_cons, List.mem_cons, List.not_mem_nil, or_false, not_or, List.nodup_nil, and_true, not_false_eq_true] at nd nd2
  exact ⟨s.get w.tw (by simp [nd, nd2]), w.gv.stp s (by simp [nd, nd2]) (by simp [nd, nd2]) (by simp [nd, nd2]), w.tk.stp s (by simp [nd, nd2]) (by simp [nd, nd2]), s.get w.th_ (by simp [nd, nd2]), e, s.get w.sd_ (by simp [nd, nd2]), s.get w.cm_ (by simp [nd, nd2]), w.nd⟩
theorem Wd.ssd (w : Wd st t p a b q c th bk sd cm g ns there back said came) (l : List Tid) : Wd (st.set sd (.ml (l.map Tid.d))) t p a b q c th bk sd cm g ns there back l came := by
  have nd := w.nd
  have nd2 := w.nd2
  have s : Stp [sd] st (st.set sd (.ml (l.map Tid.d))) := Stp.set _ (by simp)
  have e := List.getElem?_set_self (l := st) (a := Ob.ml (l.map Tid.d)) (get_lt w.sd_)
  simp only [List.nodup_cons, List.mem_cons, List.not_mem_nil, or_false, not_or, List.nodup_nil, and_true, not_false_eq_true] at nd nd2
  exact ⟨s.get w.tw (by simp [nd, nd2]), w.gv.stp s (by simp [nd, nd2]) (by simp [nd, nd2]) (by simp [nd, nd2]), w.tk.stp s (by simp [nd, nd2]) (by simp [nd, nd2]), s.get w.th_ (by simp [nd, nd2]), s.get w.bk_ (by simp [nd, nd2]), e, s.get w.cm_ (by simp [nd, nd2]), w.nd⟩
theorem Wd.scm (w : Wd st t p a b q c th bk sd cm g ns there back said came) (l : List Tid) : Wd (st.set cm (.ml (l.map Tid.d))) t p a b q c th bk sd cm g ns there back said l := by
  have nd := w.nd
  have nd2 := w.nd2
  have s : Stp [cm] st (st.set cm (.ml (l.map Tid.d))) := Stp.set _ (by simp)
  have e := List.getElem?_set_self (l := st) (a := Ob.ml (l.map Tid.d)) (get_lt w.cm_)
  simp only [List.nodup_cons, List.mem_cons, List.not_mem_nil, or_false, not_or, List.nodup_nil, and_true, not_false_eq_true] at nd nd2
  exact ⟨s.get w.tw (by simp [nd, nd2]), w.gv.stp s (by simp [nd, nd2]) (by simp [nd, nd2]) (by simp [nd, nd2]), w.tk.stp s (by simp [nd, nd2]) (by simp [nd, nd2]), s.get w.th_ (by simp [nd, nd2]), s.get w.bk_ (by simp [nd, nd2]), s.get w.sd_ (by simp [nd, nd2]), e, w.nd⟩
/-- a new list in the place of one -/
theorem Wd.nth (w : Wd st t p a b q c th bk sd cm g ns there back said came) (l : List Sn) : Wd (st ++ [.ml (l.map Sn.d)]) t p a b q c st.length bk sd cm g ns l back said came := by
  have s : Stp [] st (st ++ [.ml (l.map Sn.d)]) := Stp.app _ _ _
  exact ⟨s.get w.tw (by simp), w.gv.stp s (by simp) (by simp) (by simp), w.tk.stp s (by simp) (by simp), by simp, s.get w.bk_ (by simp), s.get w.sd_ (by simp), s.get w.cm_ (by simp), nd_new (l1 := [0, p, a, b, q, c]) w.nd w.lt (.inr (Nat.le_refl _))⟩
theorem Wd.nbk (w : Wd st t p a b q c th bk sd cm g ns there back said came) (l : List (Ans × Int)) : Wd (st ++ [.ml (ansL l)]) t p a b q c th st.length sd cm g ns there l said came := by
  have s : Stp [] st (st ++ [.ml (ansL l)]) := Stp.app _ _ _
  exact ⟨s.get w.tw (by simp), w.gv.stp s (by simp) (by simp) (by simp), w.tk.stp s (by simp) (by simp), s.get w.th_ (by simp), by simp, s.get w.sd_ (by simp), s.get w.cm_ (by simp), nd_new (l1 := [0, p, a, b, q, c, th]) w.nd w.lt (.inr (Nat.le_refl _))⟩
end
/-! ### what holds all the while -/
structure Al (m : Nat) (g : Gv) (ns : List Int) (there : List Sn) (back : List (Ans × Int)) (said came : List Tid) : Prop where
  j0 : J0 g ns said came
  j1 : J1 g ns said came there back
  fu : Full g
  mo : g.most ≤ 65535
  sl : said.length ≤ 16
  fw : g.fly.length + g.wait.length ≤ said.length
  tl : there.length ≤ 40 * m
  bl : back.length ≤ m
  cl : came.length ≤ m
  nl : ns.length ≤ m
  bd : ∀ (k : Nat) (h : k < said.length), said[k].n = [97] ∧ said[k].b = 110 :: figs k
theorem pump_len (g : Gv) : g.pump.1.fly.length + g.pump.1.wait.length = g.fly.length + g.wait.length ∧ g.pump.2.length ≤ g.wait.length ∧ g.pump.1.most = g.most ∧ g.pump.1.win = g.win := by
  have hwf := pumpL_wait (win := g.win) (most := g.most) g.wait g.last g.fly
  have hout : ∀ (ts : List Tid) (l : Int) (fs : List Fly), (pumpL g.win g.most ts l fs).out.length ≤ ts.length := by
    intro ts
    induction ts with
    | nil => intro l fs; simp [pumpL]
    | cons t ts ih => intro l fs; unfold pumpL; split <;> simp [ih]
  exact ⟨hwf.2, hout _ _ _, rfl, rfl⟩
theorem took_len (g : Gv) (w : Ans) (i : Int) : (g.took w i).1.fly.length + (g.took w i).1.wait.length ≤ g.fly.length + g.wait.length ∧ (g.took w i).2.length ≤ g.wait.length + 1 ∧ (g.took w i).1.most = g.most ∧ (g.took w i).1.win = g.win := by
  have ov : ∀ gr, (g.over i gr).1.fly.length + (g.over i gr).1.wait.length ≤ g.fly.length + g.wait.length ∧ (g.over i gr).2.length ≤ g.wait.length + 1 ∧ (g.over i gr).1.most = g.most ∧ (g.over i gr).1.win = g.win := by
    intro gr
    unfold Gv.over
    split
    · rename_i j _
      have k := pump_len { g with fly := g.fly.eraseIdx j }
      have l := List.length_eraseIdx_le g.fly j
      simp only at k ⊢
      refine ⟨by omega, by omega, k.2.2⟩
    · simp
  cases w with
  | got => exact ov 1
  | done => exact ov 3
  | held =>
    show (g.held i).1.fly.length + (g.held i).1.wait.length ≤ _ ∧ (g.held i).2.length ≤ _ ∧ (g.held i).1.most = _ ∧ (g.held i).1.win = _
    unfold Gv.held
    split
    · simp
    · refine ⟨Nat.le_refl _, ?_, rfl, rfl⟩
      simp only
      split <;> simp
theorem say_len (g : Gv) (t : Tid) : (g.say t).1.fly.length + (g.say t).1.wait.length ≤ g.fly.length + g.wait.length + 1 ∧ (g.say t).2.length ≤ g.wait.length + 1 ∧ (g.say t).1.most = g.most ∧ (g.say t).1.win = g.win := by
  unfold Gv.say
  split
  · simp
  · have k := pump_len (g.keep t)
    have l := keep_len' g t
    rw [l.2.1] at k
    refine ⟨by omega, by omega, by rw [k.2.2.1]; exact l.2.2.1, by rw [k.2.2.2]; exact l.2.2.2⟩
theorem tkTook_len (ns : List Int) (x : Sn) : (tkTook ns x).2.2.length ≤ ns.length + 1 := by
  cases x with
  | free i => exact Nat.le_succ_of_le (List.length_filter_le _ _)
  | say t r i =>
    unfold tkTook
    by_cases h0 : t.g = 0
    · simp [h0]
    · by_cases h1 : t.g = 1
      · simp [h0, h1]
      · by_cases hc : i ∈ ns <;> simp [h0, h1, hc]
theorem oL_len {α : Type} (o : Option α) : (oL o).length ≤ 1 := by cases o <;> simp [oL]
section
variable {m : Nat} {g : Gv} {ns : List Int} {there : List Sn} {back : List (Ans × Int)} {said came : List Tid}
theorem Al.sm (h : Al m g ns there back said came) : g.Sm := ⟨h.mo, by have := h.fw; have := h.sl; omega, by have := h.fw; have := h.sl; omega⟩
theorem Al.up (h : Al m g ns there back said came) : Al (m + 1) g ns there back said came :=
  ⟨h.j0, h.j1, h.fu, h.mo, h.sl, h.fw, by have := h.tl; omega, by have := h.bl; omega, by have := h.cl; omega, by have := h.nl; omega, h.bd⟩
theorem Al.took {x : Sn} (h : Al m g ns (x :: there) back said came) : Al (m + 1) g (tkTook ns x).2.2 there (back ++ oL (tkTook ns x).1) said (came ++ oL (tkTook ns x).2.1) := by
  have k := took_keeps h.j0 h.j1
  have l1 := oL_len (tkTook ns x).1
  have l2 := oL_len (tkTook ns x).2.1
  refine ⟨k.1, k.2, h.fu, h.mo, h.sl, h.fw, ?_, ?_, ?_, ?_, h.bd⟩
  · have := h.tl; simp at this; omega
  · have := h.bl; rw [List.length_append]; omega
  · have := h.cl; rw [List.length_append]; omega
  · have hn := h.nl
    have := tkTook_len ns x
    omega
theorem Al.ans {w : Ans} {i : Int} (h : Al m g ns there ((w, i) :: back) said came) : Al (m + 1) (g.took w i).1 ns (there ++ (g.took w i).2) back said came := by
  have k := ans_keeps h.j0 h.fu h.j1
  have l := took_len g w i
  refine ⟨k.1, k.2.1, k.2.2, by rw [l.2.2.1]; exact h.mo, h.sl, by have := h.fw; omega, ?_, ?_, ?_, ?_, h.bd⟩
  · have := h.tl; have := h.fw; have := h.sl; rw [List.length_append]; omega
  · have := h.bl; simp at this; omega
  · have := h.cl; omega
  · have := h.nl; omega
theorem figs_inj : ∀ n, n < 17 → ∀ m, m < 17 → figs n = figs m → n = m := by decide
theorem Al.say (h : Al m g ns there back said came) (hl : said.length < 16) (gi : Int) (hg : gi = 0 ∨ gi = 1 ∨ gi = 2) (kp : Bool) :
    let t : Tid := ⟨[97], 110 :: figs said.length, gi, kp⟩
    Al (m + 1) (g.say t).1 ns (there ++ (g.say t).2) back (said ++ [t]) came := by
  intro t
  have hn : t ∉ said := fun z => by
    obtain ⟨k, hk, e⟩ := List.mem_iff_getElem.mp z
    have b := (h.bd k hk).2
    rw [e] at b
    have b : (110 :: figs said.length : List Nat) = 110 :: figs k := b
    injection b with _ b
    have := figs_inj _ (by omega) _ (by omega) b
    omega
  have k := say_keeps h.j0 h.j1 h.fu (t := t) hg hn
  have l := say_len g t
  have hfw := h.fw
  have htl := h.tl
  refine ⟨k.1, k.2.1, k.2.2, by rw [l.2.2.1]; exact h.mo, by rw [List.length_append, List.length_singleton]; omega, by rw [List.length_append, List.length_singleton]; omega, ?_, by have := h.bl; omega, by have := h.cl; omega, by have := h.nl; omega, ?_⟩
  · rw [List.length_append]; omega
  · intro k hk
    rw [List.length_append, List.length_singleton] at hk
    by_cases hkl : k < said.length
    · rw [List.getElem_append_left hkl]; exact h.bd k hkl
    · have : k = said.length := by omega
      subst this
      simp [t]
theorem Al.again (h : Al m g ns there back said came) : Al (m + 1) g.again.1 ns g.again.2 [] said came := by
  have k := again_keeps h.j0
  have l := pump_len g
  have hfw := h.fw
  have hsl := h.sl
  refine ⟨k.1, k.2.1, k.2.2, h.mo, h.sl, by show g.pump.1.fly.length + g.pump.1.wait.length ≤ _; omega, ?_, by simp, by have := h.cl; omega, by have := h.nl; omega, h.bd⟩
  show (g.fly.map Fly.again ++ g.pump.2).length ≤ _
  rw [List.length_append, List.length_map]; omega
theorem Al.pu (h : Al m g ns there back said came) : ∀ t ∈ said, t.Pu := by
  intro t ht
  obtain ⟨k, hk, rfl⟩ := List.mem_iff_getElem.mp ht
  obtain ⟨h1, h2⟩ := h.bd k hk
  have hf : ∀ k, k < 16 → ∀ c ∈ figs k, c < 55296 := by decide
  refine ⟨by rw [h1]; simp, ?_⟩
  rw [h2]
  intro c hc
  rcases List.mem_cons.mp hc with rfl | hc
  · omega
  · exact hf k (by have := h.sl; omega) c hc
end
theorem new_look : ∀ k, k < 16 → ∀ gi : Int, gi = 0 ∨ gi = 1 ∨ gi = 2 → lookT [97] (110 :: figs k) gi = none := by
  intro k hk gi hg
  have hb : ∀ k, k < 16 → bodyB (110 :: figs k) = true := by decide
  unfold lookT
  rw [if_pos (by decide), if_pos (by omega), if_pos (hb k hk)]
/-! ### carrying -/
theorem ansL_oL (o : Option (Ans × Int)) : ansL (oL o) = oLst (fun p => ansD p.1 p.2) o := by cases o <;> rfl
theorem tid_oL (o : Option Tid) : (oL o).map Tid.d = oLst Tid.d o := by cases o <;> rfl
section
variable {m t p a b q c th bk sd cm : Nat} {st : St} {g : Gv} {ns : List Int} {there : List Sn} {back : List (Ans × Int)} {said came : List Tid}
theorem carried_there (k : Nat) {x : Sn} (w : Wd st t p a b q c th bk sd cm g ns (x :: there) back said came) (h : Al m g ns (x :: there) back said came) (hm : m ≤ 1000) :
    ∃ st' c', run (k + 2) 203 [.ref p, .ref q, .ref th, .ref bk, .ref cm] st = .ok .non st' ∧ Wd st' t p a b q c' th bk sd cm g (tkTook ns x).2.2 there (back ++ oL (tkTook ns x).1) said (came ++ oL (tkTook ns x).2.1) := by
  have hrun : run (k + 2) 203 [.ref p, .ref q, .ref th, .ref bk, .ref cm] st = fin (L__law_carried (run (k + 1)) [some (.ref p), some (.ref q), some (.ref th), some (.ref bk), some (.ref cm), none, none] st) := rfl
  rw [hrun]
  unfold L__law_carried L__law_carried_1 L__law_carried_1t L__law_carried_1t_1 L__law_carried_1t_2 L__law_carried_1t_3
  have w1 := w.sth there
  have hg : ∀ t r i, x = .say t r i → 0 ≤ t.g ∧ t.g ≤ 2 := fun t r i e => by
    subst e
    rcases h.j1.say t r i List.mem_cons_self with h0 | h1
    · omega
    · rcases (h.j0.fl _ h1).g with ⟨_, _, _, h3⟩ | ⟨_, h3⟩
      · simp at h3; omega
      · cases h3
  obtain ⟨c', st2, e2, k2, hc, s2⟩ := tk_took isRun gT k w1.tk x (by have := h.nl; omega) hg
  have w2 := w1.tkp k2 hc s2
  have w3 := w2.sbk (back ++ oL (tkTook ns x).1)
  have w4 := w3.scm (came ++ oL (tkTook ns x).2.1)
  refine ⟨_, c', ?_, w4⟩
  have hpop : popi3 (some (.ml ((x :: there).map Sn.d))) th 0 st = .ok x.d (st.set th (.ml (there.map Sn.d))) := popi3o (by have := h.tl; simp at this ⊢; omega)
  have hb : ext3 (some (.ml (ansL back))) (some (tkAns ns x)) bk st2 = .ok .non (st2.set bk (.ml (ansL back ++ tkAns ns x))) := ext3o (by
    have := h.bl
    have := oL_len (tkTook ns x).1
    have e : (tkAns ns x).length = (oL (tkTook ns x).1).length := by unfold tkAns; rw [← ansL_oL]; simp [ansL]
    rw [e]; simp [ansL]; omega)
  have hc3 : ∀ st, ext3 (some (.ml (came.map Tid.d))) (some (tkOut ns x)) cm st = .ok .non (st.set cm (.ml (came.map Tid.d ++ tkOut ns x))) := fun st => ext3o (by
    have := h.cl
    have := oL_len (tkTook ns x).2.1
    have e : (tkOut ns x).length = (oL (tkTook ns x).2.1).length := by unfold tkOut; rw [← tid_oL]; simp
    rw [e]; simp; omega)
  have eb : ansL (back ++ oL (tkTook ns x).1) = ansL back ++ tkAns ns x := by unfold tkAns; rw [← ansL_oL]; simp [ansL]
  have ec : (came ++ oL (tkTook ns x).2.1).map Tid.d = came.map Tid.d ++ tkOut ns x := by unfold tkOut; rw [← tid_oL]; simp
  have c3 := w3.cm_
  rw [eb] at c3
  rw [eb, ec]
  have q1 := w.tk.ob
  simp only [tkOb] at q1
  have hmt : (G.mt 38) 15 = some 64 := rfl
  have e2' : run (k + 1) 64 [.ref q, x.d] (st.set th (.ml (there.map Sn.d))) = .ok (.tup [.lst (tkAns ns x), .lst (tkOut ns x)]) st2 := e2
  have hth := w.th_
  have hb2 := w2.bk_
  have hc2 := w2.cm_
  simp only [List.map_cons] at hpop hth
  have hne : ¬ bk = cm := by have := w.nd; simp only [List.nodup_cons, List.mem_cons, List.not_mem_nil, or_false, not_or] at this; exact this.2.2.2.2.2.2.2.1.2
  simp [-getElem?_pos, hth, popi1o, hpop, q1, hmt, fok, e2', ext1o, hb2, hb, gset, hne, hc2, hc3]
theorem carried_back (k : Nat) {wd : Ans} {i : Int} (w : Wd st t p a b q c th bk sd cm g ns [] ((wd, i) :: back) said came) (h : Al m g ns [] ((wd, i) :: back) said came) (hm : m ≤ 1000) :
    ∃ st' a' b', run (k + 4) 203 [.ref p, .ref q, .ref th, .ref bk, .ref cm] st = .ok .non st' ∧ Wd st' t p a' b' q c th bk sd cm (g.took wd i).1 ns (g.took wd i).2 back said came := by
  have hrun : run (k + 4) 203 [.ref p, .ref q, .ref th, .ref bk, .ref cm] st = fin (L__law_carried (run (k + 3)) [some (.ref p), some (.ref q), some (.ref th), some (.ref bk), some (.ref cm), none, none] st) := rfl
  rw [hrun]
  unfold L__law_carried L__law_carried_1 L__law_carried_1e L__law_carried_1e_1
  have w1 := w.sbk back
  have hsm := h.sm
  obtain ⟨a', b', st2, e2, k2⟩ := took_ok isRun gG k wd i w1.gv h.j0.ok hsm (by have := h.fw; have := h.sl; omega)
  have w2 := w1.gvp k2 k2.i.ne
  have w3 := w2.sth ((g.took wd i).2)
  refine ⟨_, a', b', ?_, w3⟩
  have hpop : popi3 (some (.ml (ansL ((wd, i) :: back)))) bk 0 st = .ok (ansD wd i) (st.set bk (.ml (ansL back))) := popi3o (by have := h.bl; simp at this ⊢; omega)
  have q1 := w.gv.ob
  simp only [gvOb] at q1
  have hmt : (G.mt 38) 14 = some 60 := rfl
  have e2' : run (k + 3) 60 [.ref p, ansD wd i] (st.set bk (.ml (ansL back))) = .ok (.lst ((g.took wd i).2.map Sn.d)) st2 := e2
  have hth := w.th_
  have hbk := w.bk_
  have hth2 := w2.th_
  have hx : ext3 (some (.ml [])) (some ((g.took wd i).2.map Sn.d)) th st2 = .ok .non (st2.set th (.ml ([] ++ (g.took wd i).2.map Sn.d))) := ext3o (by
    have := (took_len g wd i).2.1
    have := h.fw; have := h.sl
    simp; omega)
  have e0 : ansL ((wd, i) :: back) = ansD wd i :: ansL back := rfl
  rw [e0] at hpop hbk
  simp only [List.map_nil] at hth hth2
  simp [-getElem?_pos, hth, hbk, popi1o, hpop, q1, hmt, fok, e2', ext1o, hth2, hx]
theorem carried_none (k : Nat) (w : Wd st t p a b q c th bk sd cm g ns [] [] said came) : run (k + 4) 203 [.ref p, .ref q, .ref th, .ref bk, .ref cm] st = .ok .non st := by
  have hrun : run (k + 4) 203 [.ref p, .ref q, .ref th, .ref bk, .ref cm] st = fin (L__law_carried (run (k + 3)) [some (.ref p), some (.ref q), some (.ref th), some (.ref bk), some (.ref cm), none, none] st) := rfl
  rw [hrun]
  unfold L__law_carried L__law_carried_1 L__law_carried_1e L__law_carried_1e_1
  have hth := w.th_
  have hbk := w.bk_
  simp only [ansL, List.map_nil] at hth hbk
  simp [-getElem?_pos, hth, hbk]
end
/-- carrying, whatever is there: nearer to the end by one -/
theorem carried_ok (k : Nat) {m t p a b q c th bk sd cm : Nat} {st : St} {g : Gv} {ns : List Int} {there : List Sn} {back : List (Ans × Int)} {said came : List Tid} (w : Wd st t p a b q c th bk sd cm g ns there back said came) (h : Al m g ns there back said came) (hm : m ≤ 1000) :
    ∃ st' a' b' c' g' ns' there' back' came', run (k + 4) 203 [.ref p, .ref q, .ref th, .ref bk, .ref cm] st = .ok .non st' ∧ Wd st' t p a' b' q c' th bk sd cm g' ns' there' back' said came' ∧ Al (m + 1) g' ns' there' back' said came' ∧ g'.win = g.win ∧ far g' there' back' = far g there back - 1 := by
  cases there with
  | cons x there =>
    obtain ⟨st', c', e, w'⟩ := carried_there (k + 2) w h hm
    have f := took_far h.j0 h.j1
    exact ⟨st', a, b, c', g, _, there, _, _, e, w', h.took, rfl, by omega⟩
  | nil =>
    cases back with
    | nil => exact ⟨st, a, b, c, g, ns, [], [], came, carried_none k w, w, h.up, rfl, by have := far_zero h.j0 h.fu h.j1; unfold far; rw [this.2]; simp⟩
    | cons y back =>
      obtain ⟨wd, i⟩ := y
      obtain ⟨st', a', b', e, w'⟩ := carried_back k w h hm
      have f := ans_far h.j0 h.fu h.j1
      have al := h.ans
      simp only [List.nil_append] at f al
      exact ⟨st', a', b', c, _, ns, _, back, came, e, w', al, (took_len g wd i).2.2.2, by omega⟩
/-! ### a turn -/
def E11 (ns : List Int) (win : Int) (p q th bk sd cm : Nat) (e9 e10 : Option D) : Env := [some (scr ns), some (.ref 0), some (.int win), some (.ref p), some (.ref q), some (.ref th), some (.ref bk), some (.ref sd), some (.ref cm), e9, e10]
section
variable {m t p a b q c th bk sd cm : Nat} {st : St} {g : Gv} {nm : List Int} {there : List Sn} {back : List (Ans × Int)} {said came : List Tid}
theorem say_turn (ns : List Int) (k r : Nat) (e9 : Option D) (w : Wd st t p a b q c th bk sd cm g nm there back said came) (h : Al m g nm there back said came) (hm : m ≤ 1000) (ht : t ≤ 10000) (hr : r < 3) (hl : said.length < 16) :
    ∃ st' a' b' tn g' there', L_law_9b_2 (run (k + 8)) (E11 ns g.win p q th bk sd cm e9 (some (.int r))) st = .nx (E11 ns g.win p q th bk sd cm e9 (some (.int r))) st' ∧ Wd st' (t + 1) p a' b' q c th bk sd cm g' nm there' back (said ++ [tn]) came ∧ Al (m + 1) g' nm there' back (said ++ [tn]) came ∧ g'.win = g.win := by
  unfold L_law_9b_2 L_law_9b_2t L_law_9b_2t_1 L_law_9b_2t_2 E11
  obtain ⟨d, s1, hd, x1, tw1, f1⟩ := (r__law_draw ns (k + 5)).fr w.tw 3 (by omega) (by omega)
  have w1 := w.fr f1 tw1
  let tn : Tid := ⟨[97], 110 :: figs said.length, d, (r : Int) == 0⟩
  have w2 := w1.ssd (said ++ [tn])
  have hlk : tn.look = none := new_look said.length hl (d : Int) (by omega)
  have hlim : tn.Lim := ⟨by simp [tn], by
    have : ∀ k, k < 16 → (110 :: figs k).length ≤ 16777000 := by decide
    exact this _ hl⟩
  have hsm := h.sm
  have hfw := h.fw
  obtain ⟨a', st3, x3, k3⟩ := say_ok isRun gG (k + 3) hlim hlk w2.gv h.j0.ok hsm (by omega)
  have w3 := w2.gvp k3 k3.i.ne
  have w4 := w3.sth (there ++ (g.say tn).2)
  refine ⟨_, a', b, tn, _, _, ?_, w4, h.say hl _ (by omega) _, (say_len g tn).2.2.2⟩
  have x1' : run (k + 8) 202 [scr ns, .ref 0, .int 3] st = .ok (.int d) s1 := x1
  have hsd := w.sd_
  have hsd1 := w1.sd_
  have hsd2 := w2.sd_
  have hth := w.th_
  have hth2 := w2.th_
  have hth3 := w3.th_
  have hgv := w.gv.ob
  have hgv2 := w2.gv.ob
  simp only [gvOb] at hgv hgv2
  have hr' : (r : Int) < 3 := by omega
  have hl' : (said.length : Int) < 16 := by omega
  have hstr : ∀ st, bStr [.int (said.length : Int)] st = some (.str (figs said.length)) := fun st => bStr_int (by omega)
  have hadd : ∀ st : St, oAdd (.str [110]) (.str (figs said.length)) st = some (.str (110 :: figs said.length)) := fun st => oAdd_str (by
    have : ∀ k, k < 16 → 1 + (figs k).length ≤ 16777216 := by decide
    exact this _ hl)
  have hap : app3 (some (.ml (said.map Tid.d))) sd tn.d s1 = .ok .non (s1.set sd (.ml ((said ++ [tn]).map Tid.d))) := by
    rw [app3o (by simp; omega)]; simp
  have htd : tn.d = .tup [.str [97], .str (110 :: figs said.length), .int d, .bl ((r : Int) == 0)] := rfl
  have hmt : (G.mt 32) 14 = some 58 := rfl
  have x3' : run (k + 8) 58 [.ref p, .str [97], .str (110 :: figs said.length), .int d, .bl ((r : Int) == 0)] (s1.set sd (.ml ((said ++ [tn]).map Tid.d))) = .ok (.lst ((g.say tn).2.map Sn.d)) st3 := x3
  have hx : ext3 (some (.ml (there.map Sn.d))) (some ((g.say tn).2.map Sn.d)) th st3 = .ok .non (st3.set th (.ml ((there ++ (g.say tn).2).map Sn.d))) := by
    rw [ext3o (by
      have := (say_len g tn).2.1
      have := h.tl
      simp; omega)]
    simp
  have em : (said ++ [tn]).map Tid.d = said.map Tid.d ++ [.tup [.str [97], .str (110 :: figs said.length), .int d, .bl ((r : Int) == 0)]] := by rw [List.map_append]; rfl
  rw [htd] at hap
  rw [em] at hap x3' hsd2 hgv2 hth2
  have hgv2' := hgv2
  simp [-getElem?_pos, hr', hl', hsd, app1o, hstr, hadd, x1', hsd1, hap, hth2, ext1o, hgv2, hmt, fok, oIxm1_ref, hsd2, x3', hth3, hx]
/-- what a turn leaves -/
structure Tn (st' : St) (t m : Nat) (p q sd cm : Nat) (win : Int) (th' bk' : Nat) : Prop where
  ex : ∃ t' a' b' c' g' ns' there' back' said' came', t' ≤ t ∧ Wd st' t' p a' b' q c' th' bk' sd cm g' ns' there' back' said' came' ∧ Al m g' ns' there' back' said' came' ∧ g'.win = win
theorem part_turn (ns : List Int) (k r : Nat) (e9 : Option D) (w : Wd st t p a b q c th bk sd cm g nm there back said came) (h : Al m g nm there back said came) (hm : m ≤ 1000) (ht : t ≤ 10000) (hr : r < 12) :
    ∃ st' th' bk', L_law_9b_2 (run (k + 8)) (E11 ns g.win p q th bk sd cm e9 (some (.int r))) st = .nx (E11 ns g.win p q th' bk' sd cm e9 (some (.int r))) st' ∧ Tn st' (t + 1) (m + 1) p q sd cm g.win th' bk' := by
  by_cases h3 : r < 3 ∧ said.length < 16
  · obtain ⟨st', a', b', tn, g', there', x, w', al, e⟩ := say_turn ns k r e9 w h hm ht h3.1 h3.2
    exact ⟨st', th, bk, x, ⟨t + 1, a', b', c, g', nm, there', back, _, came, Nat.le_refl _, w', al, e⟩⟩
  unfold L_law_9b_2 L_law_9b_2e L_law_9b_2e_1 L_law_9b_2e_1e L_law_9b_2e_1e_1 L_law_9b_2e_1e_1e L_law_9b_2e_1e_1e_1 L_law_9b_2e_1e_1e_1t L_law_9b_2e_1e_1e_1t_1 L_law_9b_2e_1e_1e_1t_2 L_law_9b_2e_1e_1e_1t_3 E11
  have hsd := w.sd_
  have hbk := w.bk_
  have hth := w.th_
  have hc3 : (decide ((r : Int) < 3) && decide ((said.length : Int) < 16)) = false := by
    rw [Bool.and_eq_false_iff]
    simp only [decide_eq_false_iff_not]
    omega
  by_cases h6 : r < 6
  · obtain ⟨st', a', b', c', g', ns', there', back', came', x, w', al, e, _⟩ := carried_ok (k + 4) w h hm
    refine ⟨st', th, bk, ?_, ⟨t, a', b', c', g', ns', there', back', said, came', by omega, w', al, e⟩⟩
    have h6' : (r : Int) < 6 := by omega
    have x' : run (k + 8) 203 [.ref p, .ref q, .ref th, .ref bk, .ref cm] st = .ok .non st' := x
    simp [-getElem?_pos, -Bool.and_eq_true, hsd, hc3, h6', x']
  have h6' : ¬ (r : Int) < 6 := by omega
  by_cases h11 : r = 11
  · have w1 := (w.nth []).nbk []
    have hl : (st ++ [Ob.ml (([] : List Sn).map Sn.d)]).length = st.length + 1 := by simp
    rw [hl] at w1
    obtain ⟨a', rr, st2, x2, hrr, hlr, hra, k2⟩ := again_ok isRun gG (k + 5) w1.gv h.j0.ok h.sm (by have := h.fw; have := h.sl; omega)
    have w2 := w1.gvp k2 k2.i.ne
    have w3 := w2.sth g.again.2
    refine ⟨_, st.length, st.length + 1, ?_, ⟨t, a', b, c, _, nm, _, _, said, came, by omega, w3, h.again, rfl⟩⟩
    have hi : (r : Int) = 11 := by omega
    have h10' : ¬ (r : Int) < 10 := by omega
    have x2' : run (k + 8) 61 [.ref p] (st ++ [Ob.ml (([] : List Sn).map Sn.d)] ++ [Ob.ml (ansL [])]) = .ok (.ref rr) st2 := x2
    have hgv1 := w1.gv.ob
    simp only [gvOb] at hgv1
    have hth1 := w1.th_
    have hth2 := w2.th_
    have hmt : (G.mt 0) 14 = some 61 := rfl
    have hx : ext3 (some (.ml [])) (some (g.again.2.map Sn.d)) st.length st2 = .ok .non (st2.set st.length (.ml ([] ++ g.again.2.map Sn.d))) := ext3o (by
      have := (h.again).tl
      simp; omega)
    simp only [List.map_nil, ansL, List.append_assoc, List.cons_append, List.nil_append] at x2' hgv1 hth1 hth2 hx
    simp [-getElem?_pos, -Bool.and_eq_true, hsd, hc3, h6', h10', hi, hth1, ext1o, hgv1, hmt, fok, x2', hrr, hth2, hx]
  have h11' : ¬ (r : Int) = 11 := by omega
  by_cases h10 : r < 10
  · have h10' : (r : Int) < 10 := by omega
    cases back with
    | nil =>
      refine ⟨st, th, bk, ?_, ⟨t, a, b, c, g, nm, there, [], said, came, by omega, w, h.up, rfl⟩⟩
      simp only [ansL, List.map_nil] at hbk
      simp [-getElem?_pos, -Bool.and_eq_true, hsd, hc3, h6', h10', h11', hbk]
    | cons y back =>
      obtain ⟨wd, i⟩ := y
      have w1 := w.sbk back
      obtain ⟨a', b', st2, e2, k2⟩ := took_ok isRun gG (k + 5) wd i w1.gv h.j0.ok h.sm (by have := h.fw; have := h.sl; omega)
      have w2 := w1.gvp k2 k2.i.ne
      have w3 := w2.sth (there ++ (g.took wd i).2)
      refine ⟨_, th, bk, ?_, ⟨t, a', b', c, _, nm, _, back, said, came, by omega, w3, h.ans, (took_len g wd i).2.2.2⟩⟩
      have hpop : popi3 (some (.ml (ansL ((wd, i) :: back)))) bk 0 st = .ok (ansD wd i) (st.set bk (.ml (ansL back))) := popi3o (by have := h.bl; simp at this ⊢; omega)
      have q1 := w.gv.ob
      simp only [gvOb] at q1
      have hmt : (G.mt 38) 14 = some 60 := rfl
      have e2' : run (k + 8) 60 [.ref p, ansD wd i] (st.set bk (.ml (ansL back))) = .ok (.lst ((g.took wd i).2.map Sn.d)) st2 := e2
      have hth2 := w2.th_
      have hx : ext3 (some (.ml (there.map Sn.d))) (some ((g.took wd i).2.map Sn.d)) th st2 = .ok .non (st2.set th (.ml ((there ++ (g.took wd i).2).map Sn.d))) := by
        rw [ext3o (by
          have := (took_len g wd i).2.1
          have := h.tl; have := h.fw; have := h.sl
          simp; omega)]
        simp
      have e0 : ansL ((wd, i) :: back) = ansD wd i :: ansL back := rfl
      rw [e0] at hpop hbk
      simp [-getElem?_pos, -Bool.and_eq_true, hsd, hc3, h6', h10', hth, hbk, popi1o, hpop, q1, hmt, fok, e2', ext1o, hth2, hx]
  · have h10' : ¬ (r : Int) < 10 := by omega
    refine ⟨st, th, bk, ?_, ⟨t, a, b, c, g, nm, there, back, said, came, by omega, w, h.up, rfl⟩⟩
    simp [-getElem?_pos, -Bool.and_eq_true, hsd, hc3, h6', h10', h11']
theorem turn_ok (ns : List Int) (k : Nat) (e9 e10 : Option D) (w : Wd st t p a b q c th bk sd cm g nm there back said came) (h : Al m g nm there back said came) (hm : m ≤ 1000) (ht : t ≤ 5000) :
    ∃ st' th' bk' e10', L_law_9b (run (k + 8)) (E11 ns g.win p q th bk sd cm e9 e10) st = .nx (E11 ns g.win p q th' bk' sd cm e9 e10') st' ∧ Tn st' (t + 2) (m + 1) p q sd cm g.win th' bk' := by
  unfold L_law_9b L_law_9b_1 L_law_9b_3
  obtain ⟨r, s1, hr, x1, tw1, f1⟩ := (r__law_draw ns (k + 5)).fr w.tw 12 (by omega) (by omega)
  have w1 := w.fr f1 tw1
  obtain ⟨st', th', bk', x2, ⟨t', a', b', c', g', ns', there', back', said', came', ht', w', al, e⟩⟩ := part_turn ns k r e9 w1 h hm (by omega) hr
  refine ⟨st', th', bk', some (.int r), ?_, ⟨t', a', b', c', g', ns', there', back', said', came', by omega, w', al, e⟩⟩
  have x1' : run (k + 8) 202 [scr ns, .ref 0, .int 12] st = .ok (.int r) s1 := x1
  have hmany : run (k + 8) 62 [.ref p] st' = .ok (.tup [.int g'.fly.length, .int g'.wait.length]) st' := many_ok isRun gG (k + 7) w'.gv
  have hgv := w'.gv.ob
  simp only [gvOb] at hgv
  have hmt : (G.mt 24) 14 = some 62 := rfl
  have hle : ¬ g.win < (g'.fly.length : Int) := by have := al.j0.le; rw [e] at this; omega
  simp only [E11] at x2 ⊢
  simp [-getElem?_pos, x1', x2, hgv, hmt, fok, hmany, hle]
end
theorem far_none {g : Gv} {there : List Sn} {back : List (Ans × Int)} (h : far g there back = 0) : there = [] ∧ back = [] := by
  unfold far at h
  constructor
  · cases there with
    | nil => rfl
    | cons x l =>
      have : 1 ≤ wSn x := by
        cases x with
        | free i => simp [wSn]
        | say t r i => unfold wSn; simp only; split <;> (try split) <;> omega
      rw [List.map_cons, List.sum_cons] at h; exfalso; omega
  · cases back with
    | nil => rfl
    | cons x l =>
      obtain ⟨w, i⟩ := x
      have : 1 ≤ wAn (w, i) := by cases w <;> simp [wAn]
      rw [List.map_cons (f := wAn), List.sum_cons] at h; exfalso; omega
theorem Wd.again {st st2 : St} {t p a b q c th bk sd cm a' rr : Nat} {g g' : Gv} {ns : List Int} {there out : List Sn} {back : List (Ans × Int)} {said came : List Tid} (w : Wd st t p a b q c th bk sd cm g ns there back said came)
    (k2 : GvP p a b g' st st2 a' b) (hrr : st2[rr]? = some (.ml (out.map Sn.d))) (hlr : st.length ≤ rr) (hra : rr ≠ a') : Wd st2 t p a' b q c rr bk sd cm g' ns out back said came := by
  have w2 := w.gvp k2 k2.i.ne
  refine ⟨w2.tw, w2.gv, w2.tk, hrr, w2.bk_, w2.sd_, w2.cm_, ?_⟩
  have m : [0, p, a, b, q, c, rr, bk, sd, cm].Nodup := nd_new (l1 := [0, p, a, b, q, c]) w.nd w.lt (.inr hlr)
  have n := w2.nd
  simp only [List.nodup_cons, List.mem_cons, List.not_mem_nil, or_false, not_or, List.nodup_nil, and_true, not_false_eq_true] at m n ⊢
  simp only [m, n, Ne.symm hra, not_false_eq_true, and_self]
theorem law_true (ns : List Int) (hl : ns.length ≤ 63) : ∃ st, run 60 205 [.lst (ns.map D.int)] [] = .ok (.bl true) st := by
  have h : OkQ (run 60 205 [scr ns] []) (fun d _ => d = .bl true) := by
    have hrun : run 60 205 [scr ns] [] = fin (L_law (run 59) [some (scr ns), none, none, none, none, none, none, none, none, none, none] []) := rfl
    rw [hrun]
    unfold L_law L_law_1 L_law_2 L_law_3 L_law_4 L_law_5 L_law_6 L_law_7 L_law_8 L_law_9 L_law_10 L_law_11 L_law_12 L_law_13
    have tw0 : TW 0 [.ml []] := rfl
    obtain ⟨r1, s1, hr1, x1, tw1, f1⟩ := (r__law_draw ns 56).fr tw0 4 (by omega) (by omega)
    obtain ⟨r2, s2, hr2, x2, tw2, f2⟩ := (r__law_draw ns 56).fr tw1 3 (by omega) (by omega)
    have l2 : s2.length = 1 := f2.len.trans f1.len
    have e1 : s2[s2.length]? = none := by simp
    obtain ⟨s3, x3, g3, t3, l3⟩ := init_ok isRun gG 57 (1 + r1) (1 + r1 + r2) (by omega) (p := s2.length) (st := s2 ++ [.ins 14 []]) (by simp)
    have l3' : s3.length = 4 := by rw [l3]; simp [l2]
    obtain ⟨s4, x4, g4, t4, l4⟩ := tk_init isRun gT 58 (p := s3.length) (st := s3 ++ [.ins 15 []]) (by simp)
    have l4' : s4.length = 6 := by rw [l4]; simp [l3']
    have tw3 : TW 2 s3 := t3.get (show (s2 ++ [Ob.ins 14 []])[0]? = _ by rw [List.getElem?_append_left (by omega)]; exact tw2) (by simp [l2])
    have tw4 : TW 2 s4 := t4.get (show (s3 ++ [Ob.ins 15 []])[0]? = _ by rw [List.getElem?_append_left (by omega)]; exact tw3) (by simp [l3'])
    have g3' : GvI 1 2 3 (gvNew (1 + r1) (1 + r1 + r2)) s3 := by
      have := g3; rw [l2] at this; simpa [l2] using this
    have g4' : TkI 4 5 [] s4 := by
      have := g4; rw [l3'] at this; simpa [l3'] using this
    have gv4 : GvI 1 2 3 (gvNew (1 + r1) (1 + r1 + r2)) s4 := (g3'.stp (Stp.app [] s3 [.ins 15 []]) (by simp) (by simp) (by simp)).stp t4 (by simp [l3']) (by simp [l3']) (by simp [l3'])
    let s5 : St := s4 ++ [.ml [], .ml [], .ml [], .ml []]
    have k5 : Stp [] s4 s5 := Stp.app _ _ _
    have at5 : ∀ j, j < 4 → s5[6 + j]? = some (.ml []) := fun j hj => by
      show (s4 ++ _)[6 + j]? = _
      rw [List.getElem?_append_right (by omega), l4', Nat.add_sub_cancel_left]
      rcases (show j = 0 ∨ j = 1 ∨ j = 2 ∨ j = 3 by omega) with rfl | rfl | rfl | rfl <;> rfl
    have w5 : Wd s5 2 1 2 3 4 5 6 7 8 9 (gvNew (1 + r1) (1 + r1 + r2)) [] [] [] [] [] := ⟨k5.get tw4 (by simp), gv4.stp k5 (by simp) (by simp) (by simp), g4'.stp k5 (by simp) (by simp), at5 0 (by omega), at5 1 (by omega), at5 2 (by omega), at5 3 (by omega), by decide⟩
    have al5 : Al 0 (gvNew (1 + r1) (1 + r1 + r2)) [] [] [] [] [] := by
      refine ⟨⟨⟨?_, ?_, ?_, ?_⟩, ?_, ?_, ?_, ?_, ?_, ?_, ?_, ?_, ?_, ?_, ?_⟩, ⟨?_, ?_, ?_, ?_, ?_, ?_, ?_, ?_, ?_⟩, .inl rfl, ?_, ?_, ?_, ?_, ?_, ?_, ?_, ?_⟩ <;> simp [gvNew, ids, thIds, bkIds, gr, firsts] <;> omega
    obtain ⟨r6, s6, hr6, x6, tw6, f6⟩ := (r__law_draw ns 56).fr w5.tw 61 (by omega) (by omega)
    have w6 := w5.fr f6 tw6
    have hrg : rng1 (.int (r6 : Int)) s6 = .ok (.data ((List.range r6).map fun (k : Nat) => D.int (k : Int))) s6 := rng1_ok (by omega)
    -- the deeds
    obtain ⟨env7, s7, x7, m7, t7, a7, b7, c7, th7, bk7, g7, n7, there7, back7, said7, came7, e7a, e7b, rfl, w7, al7, hw7, hm7, ht7⟩ := fData_inv (t := .name 9) (b := L_law_9b (run 59)) (fun k : Nat => D.int (k : Int))
      (fun n env st => ∃ (m t a b c th bk : Nat) (g : Gv) (nm : List Int) (there : List Sn) (back : List (Ans × Int)) (said came : List Tid) (e9 e10 : Option D), env = E11 ns (1 + r1) 1 4 th bk 8 9 e9 e10 ∧ Wd st t 1 a b 4 c th bk 8 9 g nm there back said came ∧ Al m g nm there back said came ∧ g.win = 1 + r1 ∧ m + n ≤ 100 ∧ t + 2 * n ≤ 1000)
      (List.range r6) (E11 ns (1 + r1) 1 4 6 7 8 9 none none) s6 ⟨0, 3, _, _, _, _, _, _, _, _, _, _, _, none, none, rfl, w6, al5, rfl, by simp; omega, by simp; omega⟩
      (by
        rintro a ha n env st ⟨m, t, a', b', c', th', bk', g', nm', there', back', said', came', e9, e10, rfl, w', al', hw', hm', ht'⟩
        obtain ⟨st', th2, bk2, e10', x, ⟨t2, a2, b2, c2, g2, nm2, there2, back2, said2, came2, ht2, w2, al2, hw2⟩⟩ := turn_ok ns 51 (some (.int (a : Int))) e10 w' al' (by omega) (by omega)
        rw [hw'] at x hw2
        exact ⟨_, _, st', rfl, x, m + 1, t2, a2, b2, c2, th2, bk2, g2, nm2, there2, back2, said2, came2, some (.int (a : Int)), e10', rfl, w2, al2, hw2, by omega, by omega⟩)
    -- the last line
    obtain ⟨a8, rr8, s8, x8, hrr8, hlr8, hra8, k8⟩ := again_ok isRun gG 56 w7.gv al7.j0.ok al7.sm (by have := al7.fw; have := al7.sl; omega)
    have w8 := w7.again k8 hrr8 hlr8 hra8
    have al8 := al7.again
    have w9 := w8.nbk []
    have far9 : far g7.again.1 g7.again.2 [] ≤ 400 := by have := again_far al7.j0; have := al7.fw; have := al7.sl; omega
    have hrg4 : rng1 (.int 400) (s8 ++ [.ml (ansL [])]) = .ok (.data ((List.range 400).map fun (k : Nat) => D.int (k : Int))) (s8 ++ [.ml (ansL [])]) := rng1_ok (n := 400) (by omega)
    obtain ⟨env10, s10, x10, m10, t10, a10, b10, c10, g10, n10, there10, back10, came10, e10a, rfl, w10, al10, hm10, hf10⟩ := fData_inv (t := .name 9) (b := L_law_12b (run 59)) (fun k : Nat => D.int (k : Int))
      (fun n env st => ∃ (m t a b c : Nat) (g : Gv) (nm : List Int) (there : List Sn) (back : List (Ans × Int)) (came : List Tid) (e9 : Option D), env = E11 ns (1 + r1) 1 4 rr8 s8.length 8 9 e9 e7b ∧ Wd st t 1 a b 4 c rr8 s8.length 8 9 g nm there back said7 came ∧ Al m g nm there back said7 came ∧ m + n ≤ 900 ∧ far g there back ≤ n)
      (List.range 400) (E11 ns (1 + r1) 1 4 rr8 s8.length 8 9 e7a e7b) (s8 ++ [.ml (ansL [])]) ⟨m7 + 1, t7, _, _, _, _, _, _, _, _, e7a, rfl, w9, al8, by simp; omega, by rw [List.length_range]; exact far9⟩
      (by
        rintro a ha n env st ⟨m, t, a', b', c', g', nm', there', back', came', e9, rfl, w', al', hm', hf'⟩
        obtain ⟨st', a2, b2, c2, g2, nm2, there2, back2, came2, x, w2, al2, hw2, hf2⟩ := carried_ok 55 w' al' (by omega)
        refine ⟨_, _, st', rfl, ?_, m + 1, t, a2, b2, c2, g2, nm2, there2, back2, came2, some (.int (a : Int)), rfl, w2, al2, by omega, by omega⟩
        unfold L_law_12b L_law_12b_1
        have x' : run 59 203 [.ref 1, .ref 4, .ref rr8, .ref s8.length, .ref 9] st = .ok .non st' := x
        simp [E11, x'])
    obtain ⟨rfl, rfl⟩ := far_none (show far g10 there10 back10 = 0 by omega)
    obtain ⟨hfly, hwait⟩ := far_zero al10.j0 al10.fu al10.j1
    obtain ⟨p2, p1, p0⟩ := far_end al10.j0 hfly hwait
    have kept : Kept said7 came10 := ⟨p2, p1, p0, al10.j0.sd, al10.j0.cs, al10.pu⟩
    have hgood : run 59 204 [.ref 8, .ref 9] s10 = .ok (.bl true) s10 := good_ok 58 w10.sd_ w10.cm_ kept (by have := al10.sl; omega) (by have := al10.cl; omega)
    have hmany : run 59 62 [.ref 1] s10 = .ok (.tup [.int g10.fly.length, .int g10.wait.length]) s10 := many_ok isRun gG 58 w10.gv
    rw [hfly, hwait] at hmany
    -- all together
    have hmk : ∀ st : St, (st ++ [Ob.ml []]) = st ++ [.ml []] := fun _ => rfl
    have x1' : run 59 202 [scr ns, .ref 0, .int 4] [.ml []] = .ok (.int r1) s1 := x1
    have x2' : run 59 202 [scr ns, .ref 0, .int 3] s1 = .ok (.int r2) s2 := x2
    have x3' : run 59 54 [.ref s2.length, .int (1 + r1), .int (1 + r1 + r2)] (s2 ++ [.ins 14 []]) = .ok .non s3 := x3
    have x4' : run 59 63 [.ref s3.length] (s3 ++ [.ins 15 []]) = .ok .non s4 := x4
    have x6' : run 59 202 [scr ns, .ref 0, .int 61] s5 = .ok (.int r6) s6 := x6
    have x8' : run 59 61 [.ref 1] s7 = .ok (.ref rr8) s8 := x8
    have hg7 := w7.gv.ob
    have hg10 := w10.gv.ob
    simp only [gvOb] at hg7 hg10
    have hmt0 : (G.mt 0) 14 = some 61 := rfl
    have hmt24 : (G.mt 24) 14 = some 62 := rfl
    have hth10 := w10.th_
    have hbk10 := w10.bk_
    simp only [List.map_nil, ansL] at hth10 hbk10
    have q0 : ∀ st : St, oEq (.lst []) (.lst []) st = some (.bl true) := fun _ => rfl
    have q1 : ∀ st : St, oEq (.tup [.int 0, .int 0]) (.tup [.int 0, .int 0]) st = some (.bl true) := fun _ => rfl
    have c0 : ∀ st : St, cat3 (some []) (some []) st = .ok [] st := fun _ => cat3_ok (by simp)
    simp only [E11] at x7 x10
    simp only [s5, l2, l3'] at x3' x4' x6'
    simp only [List.map_nil, ansL] at x10 hrg4
    simp [-getElem?_pos, x1', x2', l2, x3', l3', x4', l4', x6', hrg]
    rw [x7]
    simp [-getElem?_pos, hg7, hmt0, fok, x8', hrg4]
    rw [x10]
    simp [-getElem?_pos, hth10, hbk10, c0, q0, hg10, hmt24, fok, hmany, q1, hgood]
  obtain ⟨d, st, h, rfl⟩ := h
  exact ⟨st, h⟩
end TH.k32
end
set_option Elab.async false
set_option linter.all false
set_option autoImplicit false
set_option maxRecDepth 100000
set_option maxHeartbeats 4000000
/-! E_k32: the end (printed by gen.py). -/
namespace TH.k32
open PySem L2 TL PyProof.Rows TH
def spLaw (K : PySem.W.Frag) : Sp := fun vs H Q E => ∀ cA : Nat → Addr, spC (L0 K cA) (run 60 205) vs H Q E
theorem all_mk {l : PySem.W.OpenLaw} {w : World} {K : PySem.W.Frag} {h : Heap} {mg : Str → Option Value} {fa : Addr} (X : K.In h) (G : h.Ns mainGlobals mg) (hfa : mg "law" = some (.ref fa))
    {C14 : Addr}
    {C15 : Addr}
    {f0 : Addr} {od0 an0 : Option Addr} {sl0 : Array (Option Value)} {oc0 kV0 dc0 pm0 cd0 ct0 : Value}
    {f1 : Addr} {od1 an1 : Option Addr} {sl1 : Array (Option Value)} {oc1 kV1 dc1 pm1 cd1 ct1 : Value}
    {f4 : Addr} {od4 an4 : Option Addr} {sl4 : Array (Option Value)} {oc4 kV4 dc4 pm4 cd4 ct4 : Value}
    {f25 : Addr} {od25 an25 : Option Addr} {sl25 : Array (Option Value)} {oc25 kV25 dc25 pm25 cd25 ct25 : Value}
    {f26 : Addr} {od26 an26 : Option Addr} {sl26 : Array (Option Value)} {oc26 kV26 dc26 pm26 cd26 ct26 : Value}
    {f28 : Addr} {od28 an28 : Option Addr} {sl28 : Array (Option Value)} {oc28 kV28 dc28 pm28 cd28 ct28 : Value}
    {f53 : Addr} {od53 an53 : Option Addr} {sl53 : Array (Option Value)} {oc53 kV53 dc53 pm53 cd53 ct53 : Value}
    {f54 : Addr} {od54 an54 : Option Addr} {sl54 : Array (Option Value)} {oc54 kV54 dc54 pm54 cd54 ct54 : Value}
    {f55 : Addr} {od55 an55 : Option Addr} {sl55 : Array (Option Value)} {oc55 kV55 dc55 pm55 cd55 ct55 : Value}
    {f56 : Addr} {od56 an56 : Option Addr} {sl56 : Array (Option Value)} {oc56 kV56 dc56 pm56 cd56 ct56 : Value}
    {f57 : Addr} {od57 an57 : Option Addr} {sl57 : Array (Option Value)} {oc57 kV57 dc57 pm57 cd57 ct57 : Value}
    {f58 : Addr} {od58 an58 : Option Addr} {sl58 : Array (Option Value)} {oc58 kV58 dc58 pm58 cd58 ct58 : Value}
    {f59 : Addr} {od59 an59 : Option Addr} {sl59 : Array (Option Value)} {oc59 kV59 dc59 pm59 cd59 ct59 : Value}
    {f60 : Addr} {od60 an60 : Option Addr} {sl60 : Array (Option Value)} {oc60 kV60 dc60 pm60 cd60 ct60 : Value}
    {f61 : Addr} {od61 an61 : Option Addr} {sl61 : Array (Option Value)} {oc61 kV61 dc61 pm61 cd61 ct61 : Value}
    {f62 : Addr} {od62 an62 : Option Addr} {sl62 : Array (Option Value)} {oc62 kV62 dc62 pm62 cd62 ct62 : Value}
    {f63 : Addr} {od63 an63 : Option Addr} {sl63 : Array (Option Value)} {oc63 kV63 dc63 pm63 cd63 ct63 : Value}
    {f64 : Addr} {od64 an64 : Option Addr} {sl64 : Array (Option Value)} {oc64 kV64 dc64 pm64 cd64 ct64 : Value}
    {f200 : Addr} {od200 an200 : Option Addr} {sl200 : Array (Option Value)} {oc200 kV200 dc200 pm200 cd200 ct200 : Value}
    {f201 : Addr} {od201 an201 : Option Addr} {sl201 : Array (Option Value)} {oc201 kV201 dc201 pm201 cd201 ct201 : Value}
    {f202 : Addr} {od202 an202 : Option Addr} {sl202 : Array (Option Value)} {oc202 kV202 dc202 pm202 cd202 ct202 : Value}
    {f203 : Addr} {od203 an203 : Option Addr} {sl203 : Array (Option Value)} {oc203 kV203 dc203 pm203 cd203 ct203 : Value}
    {f204 : Addr} {od204 an204 : Option Addr} {sl204 : Array (Option Value)} {oc204 kV204 dc204 pm204 cd204 ct204 : Value}
    {f205 : Addr} {od205 an205 : Option Addr} {sl205 : Array (Option Value)} {oc205 kV205 dc205 pm205 cd205 ct205 : Value}
    {tk_MOST_BODY : Tok}
    {tk_MOST_ID : Tok}
    {tk_MOST_LEVELS : Tok}
    {tk_MOST_SIGNS : Tok}
    {tk_MOST_WINDOW : Tok}
    {C1 : Addr}
    {C2 : Addr}
    {C4 : Addr}
    (x14 : PySem.W.nsIn K mainGlobals "Giver" = some (some (.ref C14)))
    (cp14 : PySem.W.plainGet K C14 Str.empty = true)
    (ch14 : PySem.W.hasDictIn K C14 = true)
    (co14 : PySem.W.plainOver K C14 = true)
    (cs14 : PySem.W.findIn K (.ref C14) "__setattr__" = some (some (.builtin "object.__setattr__")))
    (mk14 : PySem.W.makesIn K C14 = true)
    (kp14 : PySem.W.keepIn K (.ref C14) = true)
    (na14_window : PySem.W.findIn K (.ref C14) "window" = some none)
    (na14_most : PySem.W.findIn K (.ref C14) "most" = some none)
    (na14_last : PySem.W.findIn K (.ref C14) "last" = some none)
    (na14_waiting : PySem.W.findIn K (.ref C14) "waiting" = some none)
    (na14_flying : PySem.W.findIn K (.ref C14) "flying" = some none)
    (x15 : PySem.W.nsIn K mainGlobals "Taker" = some (some (.ref C15)))
    (cp15 : PySem.W.plainGet K C15 Str.empty = true)
    (ch15 : PySem.W.hasDictIn K C15 = true)
    (co15 : PySem.W.plainOver K C15 = true)
    (cs15 : PySem.W.findIn K (.ref C15) "__setattr__" = some (some (.builtin "object.__setattr__")))
    (mk15 : PySem.W.makesIn K C15 = true)
    (kp15 : PySem.W.keepIn K (.ref C15) = true)
    (na15_numbers : PySem.W.findIn K (.ref C15) "numbers" = some none)
    (a0 : PySem.W.nsIn K mainGlobals "is_level" = some (some (.ref f0)))
    (l0 : K.lookup f0 = some ⟨oc0, od0, .func (PySem.W.fnOf "is_level" "is_level" (defArgs s_is_level) (defBody s_is_level) (defScope s_is_level) .none kV0 dc0 pm0 an0 cd0 ct0), sl0⟩)
    (c0 : PySem.W.codeIn K cd0 "is_level" = true)
    (k0 : PySem.W.keepIn K (.ref f0) = true)
    (a1 : PySem.W.nsIn K mainGlobals "look_name" = some (some (.ref f1)))
    (l1 : K.lookup f1 = some ⟨oc1, od1, .func (PySem.W.fnOf "look_name" "look_name" (defArgs s_look_name) (defBody s_look_name) (defScope s_look_name) .none kV1 dc1 pm1 an1 cd1 ct1), sl1⟩)
    (c1 : PySem.W.codeIn K cd1 "look_name" = true)
    (k1 : PySem.W.keepIn K (.ref f1) = true)
    (a4 : PySem.W.nsIn K mainGlobals "look_grade" = some (some (.ref f4)))
    (l4 : K.lookup f4 = some ⟨oc4, od4, .func (PySem.W.fnOf "look_grade" "look_grade" (defArgs s_look_grade) (defBody s_look_grade) (defScope s_look_grade) .none kV4 dc4 pm4 an4 cd4 ct4), sl4⟩)
    (c4 : PySem.W.codeIn K cd4 "look_grade" = true)
    (k4 : PySem.W.keepIn K (.ref f4) = true)
    (a25 : PySem.W.nsIn K mainGlobals "must" = some (some (.ref f25)))
    (l25 : K.lookup f25 = some ⟨oc25, od25, .func (PySem.W.fnOf "must" "must" (defArgs s_must) (defBody s_must) (defScope s_must) .none kV25 dc25 pm25 an25 cd25 ct25), sl25⟩)
    (c25 : PySem.W.codeIn K cd25 "must" = true)
    (k25 : PySem.W.keepIn K (.ref f25) = true)
    (a26 : PySem.W.nsIn K mainGlobals "is_body" = some (some (.ref f26)))
    (l26 : K.lookup f26 = some ⟨oc26, od26, .func (PySem.W.fnOf "is_body" "is_body" (defArgs s_is_body) (defBody s_is_body) (defScope s_is_body) .none kV26 dc26 pm26 an26 cd26 ct26), sl26⟩)
    (c26 : PySem.W.codeIn K cd26 "is_body" = true)
    (k26 : PySem.W.keepIn K (.ref f26) = true)
    (a28 : PySem.W.nsIn K mainGlobals "look_tiding" = some (some (.ref f28)))
    (l28 : K.lookup f28 = some ⟨oc28, od28, .func (PySem.W.fnOf "look_tiding" "look_tiding" (defArgs s_look_tiding) (defBody s_look_tiding) (defScope s_look_tiding) .none kV28 dc28 pm28 an28 cd28 ct28), sl28⟩)
    (c28 : PySem.W.codeIn K cd28 "look_tiding" = true)
    (k28 : PySem.W.keepIn K (.ref f28) = true)
    (a53 : PySem.W.nsIn K mainGlobals "look_ends" = some (some (.ref f53)))
    (l53 : K.lookup f53 = some ⟨oc53, od53, .func (PySem.W.fnOf "look_ends" "look_ends" (defArgs s_look_ends) (defBody s_look_ends) (defScope s_look_ends) .none kV53 dc53 pm53 an53 cd53 ct53), sl53⟩)
    (c53 : PySem.W.codeIn K cd53 "look_ends" = true)
    (k53 : PySem.W.keepIn K (.ref f53) = true)
    (a54 : PySem.W.findIn K (.ref C14) "__init__" = some (some (.ref f54)))
    (fi54 : PySem.W.isFn K (.ref f54) = true)
    (l54 : K.lookup f54 = some ⟨oc54, od54, .func (PySem.W.fnOf "__init__" "Giver.__init__" (defArgs s_Giver___init__) (defBody s_Giver___init__) (defScope s_Giver___init__) .none kV54 dc54 pm54 an54 cd54 ct54), sl54⟩)
    (c54 : PySem.W.codeIn K cd54 "Giver.__init__" = true)
    (k54 : PySem.W.keepIn K (.ref f54) = true)
    (a55 : PySem.W.findIn K (.ref C14) "number" = some (some (.ref f55)))
    (fi55 : PySem.W.isFn K (.ref f55) = true)
    (l55 : K.lookup f55 = some ⟨oc55, od55, .func (PySem.W.fnOf "number" "Giver.number" (defArgs s_Giver_number) (defBody s_Giver_number) (defScope s_Giver_number) .none kV55 dc55 pm55 an55 cd55 ct55), sl55⟩)
    (c55 : PySem.W.codeIn K cd55 "Giver.number" = true)
    (k55 : PySem.W.keepIn K (.ref f55) = true)
    (a56 : PySem.W.findIn K (.ref C14) "pump" = some (some (.ref f56)))
    (fi56 : PySem.W.isFn K (.ref f56) = true)
    (l56 : K.lookup f56 = some ⟨oc56, od56, .func (PySem.W.fnOf "pump" "Giver.pump" (defArgs s_Giver_pump) (defBody s_Giver_pump) (defScope s_Giver_pump) .none kV56 dc56 pm56 an56 cd56 ct56), sl56⟩)
    (c56 : PySem.W.codeIn K cd56 "Giver.pump" = true)
    (k56 : PySem.W.keepIn K (.ref f56) = true)
    (a57 : PySem.W.findIn K (.ref C14) "keep" = some (some (.ref f57)))
    (fi57 : PySem.W.isFn K (.ref f57) = true)
    (l57 : K.lookup f57 = some ⟨oc57, od57, .func (PySem.W.fnOf "keep" "Giver.keep" (defArgs s_Giver_keep) (defBody s_Giver_keep) (defScope s_Giver_keep) .none kV57 dc57 pm57 an57 cd57 ct57), sl57⟩)
    (c57 : PySem.W.codeIn K cd57 "Giver.keep" = true)
    (k57 : PySem.W.keepIn K (.ref f57) = true)
    (a58 : PySem.W.findIn K (.ref C14) "say" = some (some (.ref f58)))
    (fi58 : PySem.W.isFn K (.ref f58) = true)
    (l58 : K.lookup f58 = some ⟨oc58, od58, .func (PySem.W.fnOf "say" "Giver.say" (defArgs s_Giver_say) (defBody s_Giver_say) (defScope s_Giver_say) .none kV58 dc58 pm58 an58 cd58 ct58), sl58⟩)
    (c58 : PySem.W.codeIn K cd58 "Giver.say" = true)
    (k58 : PySem.W.keepIn K (.ref f58) = true)
    (a59 : PySem.W.findIn K (.ref C14) "place_of" = some (some (.ref f59)))
    (fi59 : PySem.W.isFn K (.ref f59) = true)
    (l59 : K.lookup f59 = some ⟨oc59, od59, .func (PySem.W.fnOf "place_of" "Giver.place_of" (defArgs s_Giver_place_of) (defBody s_Giver_place_of) (defScope s_Giver_place_of) .none kV59 dc59 pm59 an59 cd59 ct59), sl59⟩)
    (c59 : PySem.W.codeIn K cd59 "Giver.place_of" = true)
    (k59 : PySem.W.keepIn K (.ref f59) = true)
    (a60 : PySem.W.findIn K (.ref C14) "took" = some (some (.ref f60)))
    (fi60 : PySem.W.isFn K (.ref f60) = true)
    (l60 : K.lookup f60 = some ⟨oc60, od60, .func (PySem.W.fnOf "took" "Giver.took" (defArgs s_Giver_took) (defBody s_Giver_took) (defScope s_Giver_took) .none kV60 dc60 pm60 an60 cd60 ct60), sl60⟩)
    (c60 : PySem.W.codeIn K cd60 "Giver.took" = true)
    (k60 : PySem.W.keepIn K (.ref f60) = true)
    (a61 : PySem.W.findIn K (.ref C14) "again" = some (some (.ref f61)))
    (fi61 : PySem.W.isFn K (.ref f61) = true)
    (l61 : K.lookup f61 = some ⟨oc61, od61, .func (PySem.W.fnOf "again" "Giver.again" (defArgs s_Giver_again) (defBody s_Giver_again) (defScope s_Giver_again) .none kV61 dc61 pm61 an61 cd61 ct61), sl61⟩)
    (c61 : PySem.W.codeIn K cd61 "Giver.again" = true)
    (k61 : PySem.W.keepIn K (.ref f61) = true)
    (a62 : PySem.W.findIn K (.ref C14) "many" = some (some (.ref f62)))
    (fi62 : PySem.W.isFn K (.ref f62) = true)
    (l62 : K.lookup f62 = some ⟨oc62, od62, .func (PySem.W.fnOf "many" "Giver.many" (defArgs s_Giver_many) (defBody s_Giver_many) (defScope s_Giver_many) .none kV62 dc62 pm62 an62 cd62 ct62), sl62⟩)
    (c62 : PySem.W.codeIn K cd62 "Giver.many" = true)
    (k62 : PySem.W.keepIn K (.ref f62) = true)
    (a63 : PySem.W.findIn K (.ref C15) "__init__" = some (some (.ref f63)))
    (fi63 : PySem.W.isFn K (.ref f63) = true)
    (l63 : K.lookup f63 = some ⟨oc63, od63, .func (PySem.W.fnOf "__init__" "Taker.__init__" (defArgs s_Taker___init__) (defBody s_Taker___init__) (defScope s_Taker___init__) .none kV63 dc63 pm63 an63 cd63 ct63), sl63⟩)
    (c63 : PySem.W.codeIn K cd63 "Taker.__init__" = true)
    (k63 : PySem.W.keepIn K (.ref f63) = true)
    (a64 : PySem.W.findIn K (.ref C15) "took" = some (some (.ref f64)))
    (fi64 : PySem.W.isFn K (.ref f64) = true)
    (l64 : K.lookup f64 = some ⟨oc64, od64, .func (PySem.W.fnOf "took" "Taker.took" (defArgs s_Taker_took) (defBody s_Taker_took) (defScope s_Taker_took) .none kV64 dc64 pm64 an64 cd64 ct64), sl64⟩)
    (c64 : PySem.W.codeIn K cd64 "Taker.took" = true)
    (k64 : PySem.W.keepIn K (.ref f64) = true)
    (a200 : PySem.W.nsIn K mainGlobals "_law_cell" = some (some (.ref f200)))
    (l200 : K.lookup f200 = some ⟨oc200, od200, .func (PySem.W.fnOf "_law_cell" "_law_cell" (defArgs s__law_cell) (defBody s__law_cell) (defScope s__law_cell) .none kV200 dc200 pm200 an200 cd200 ct200), sl200⟩)
    (c200 : PySem.W.codeIn K cd200 "_law_cell" = true)
    (k200 : PySem.W.keepIn K (.ref f200) = true)
    (a201 : PySem.W.nsIn K mainGlobals "_law_mix" = some (some (.ref f201)))
    (l201 : K.lookup f201 = some ⟨oc201, od201, .func (PySem.W.fnOf "_law_mix" "_law_mix" (defArgs s__law_mix) (defBody s__law_mix) (defScope s__law_mix) .none kV201 dc201 pm201 an201 cd201 ct201), sl201⟩)
    (c201 : PySem.W.codeIn K cd201 "_law_mix" = true)
    (k201 : PySem.W.keepIn K (.ref f201) = true)
    (a202 : PySem.W.nsIn K mainGlobals "_law_draw" = some (some (.ref f202)))
    (l202 : K.lookup f202 = some ⟨oc202, od202, .func (PySem.W.fnOf "_law_draw" "_law_draw" (defArgs s__law_draw) (defBody s__law_draw) (defScope s__law_draw) .none kV202 dc202 pm202 an202 cd202 ct202), sl202⟩)
    (c202 : PySem.W.codeIn K cd202 "_law_draw" = true)
    (k202 : PySem.W.keepIn K (.ref f202) = true)
    (a203 : PySem.W.nsIn K mainGlobals "_law_carried" = some (some (.ref f203)))
    (l203 : K.lookup f203 = some ⟨oc203, od203, .func (PySem.W.fnOf "_law_carried" "_law_carried" (defArgs s__law_carried) (defBody s__law_carried) (defScope s__law_carried) .none kV203 dc203 pm203 an203 cd203 ct203), sl203⟩)
    (c203 : PySem.W.codeIn K cd203 "_law_carried" = true)
    (k203 : PySem.W.keepIn K (.ref f203) = true)
    (a204 : PySem.W.nsIn K mainGlobals "_law_good" = some (some (.ref f204)))
    (l204 : K.lookup f204 = some ⟨oc204, od204, .func (PySem.W.fnOf "_law_good" "_law_good" (defArgs s__law_good) (defBody s__law_good) (defScope s__law_good) .none kV204 dc204 pm204 an204 cd204 ct204), sl204⟩)
    (c204 : PySem.W.codeIn K cd204 "_law_good" = true)
    (k204 : PySem.W.keepIn K (.ref f204) = true)
    (a205 : PySem.W.nsIn K mainGlobals "law" = some (some (.ref f205)))
    (l205 : K.lookup f205 = some ⟨oc205, od205, .func (PySem.W.fnOf "law" "law" (defArgs s_law) (defBody s_law) (defScope s_law) .none kV205 dc205 pm205 an205 cd205 ct205), sl205⟩)
    (c205 : PySem.W.codeIn K cd205 "law" = true)
    (k205 : PySem.W.keepIn K (.ref f205) = true)
    (z_all : PySem.W.nsIn K mainGlobals "all" = some none)
    (z_len : PySem.W.nsIn K mainGlobals "len" = some none)
    (z_ord : PySem.W.nsIn K mainGlobals "ord" = some none)
    (z_range : PySem.W.nsIn K mainGlobals "range" = some none)
    (z_str : PySem.W.nsIn K mainGlobals "str" = some none)
    (g_MOST_BODY : PySem.W.nsIn K mainGlobals "MOST_BODY" = some (some (.int 300 tk_MOST_BODY)))
    (g_MOST_ID : PySem.W.nsIn K mainGlobals "MOST_ID" = some (some (.int 65535 tk_MOST_ID)))
    (g_MOST_LEVELS : PySem.W.nsIn K mainGlobals "MOST_LEVELS" = some (some (.int 8 tk_MOST_LEVELS)))
    (g_MOST_SIGNS : PySem.W.nsIn K mainGlobals "MOST_SIGNS" = some (some (.int 12 tk_MOST_SIGNS)))
    (g_MOST_WINDOW : PySem.W.nsIn K mainGlobals "MOST_WINDOW" = some (some (.int 20 tk_MOST_WINDOW)))
    (x1 : PySem.W.nsIn K mainGlobals "BadName" = some (some (.ref C1)))
    (y1 : PySem.W.excIn K C1 [.type "ValueError", .type "Exception", .type "BaseException", .type "object"] "ValueError.__new__" = true)
    (w1 : PySem.W.keepIn K (.ref C1) = true)
    (v1 : PySem.W.subIn K (.ref C1) (.type "BaseException") = some true)
    (u1 : PySem.W.typeIn K (.ref C1) = some (.type "type"))
    (h1 : PySem.W.hasDictIn K C1 = true)
    (x2 : PySem.W.nsIn K mainGlobals "BadPacket" = some (some (.ref C2)))
    (y2 : PySem.W.excIn K C2 [.type "ValueError", .type "Exception", .type "BaseException", .type "object"] "ValueError.__new__" = true)
    (w2 : PySem.W.keepIn K (.ref C2) = true)
    (v2 : PySem.W.subIn K (.ref C2) (.type "BaseException") = some true)
    (u2 : PySem.W.typeIn K (.ref C2) = some (.type "type"))
    (h2 : PySem.W.hasDictIn K C2 = true)
    (x4 : PySem.W.nsIn K mainGlobals "BadLine" = some (some (.ref C4)))
    (y4 : PySem.W.excIn K C4 [.type "ValueError", .type "Exception", .type "BaseException", .type "object"] "ValueError.__new__" = true)
    (w4 : PySem.W.keepIn K (.ref C4) = true)
    (v4 : PySem.W.subIn K (.ref C4) (.type "BaseException") = some true)
    (u4 : PySem.W.typeIn K (.ref C4) = some (.type "type"))
    (h4 : PySem.W.hasDictIn K C4 = true)
    : ∃ fd : FuncData, (∀ (s : Shared) (v : Value), BindsTo s fd ⟨[v], []⟩ [("_law_script", v)]) ∧ ∀ base : Heap, K.In base → base.Ns mainGlobals mg → FnOk l.prog w K mg base (L2.CX l.prog w) 120 fa fd ["_law_script"] (spLaw K) := by
  have e : f205 = fa := Value.ref.inj (Option.some.inj ((PySem.W.mg_of X G a205).symm.trans hfa))
  subst e
  have T : Txt K mg (fun | 0 => f0 | 1 => f1 | 4 => f4 | 25 => f25 | 26 => f26 | 28 => f28 | 53 => f53 | 54 => f54 | 55 => f55 | 56 => f56 | 57 => f57 | 58 => f58 | 59 => f59 | 60 => f60 | 61 => f61 | 62 => f62 | 63 => f63 | 64 => f64 | 200 => f200 | 201 => f201 | 202 => f202 | 203 => f203 | 204 => f204 | 205 => f205 | _ => f0) (fun | 0 => PySem.W.fnOf "is_level" "is_level" (defArgs s_is_level) (defBody s_is_level) (defScope s_is_level) .none kV0 dc0 pm0 an0 cd0 ct0 | 1 => PySem.W.fnOf "look_name" "look_name" (defArgs s_look_name) (defBody s_look_name) (defScope s_look_name) .none kV1 dc1 pm1 an1 cd1 ct1 | 4 => PySem.W.fnOf "look_grade" "look_grade" (defArgs s_look_grade) (defBody s_look_grade) (defScope s_look_grade) .none kV4 dc4 pm4 an4 cd4 ct4 | 25 => PySem.W.fnOf "must" "must" (defArgs s_must) (defBody s_must) (defScope s_must) .none kV25 dc25 pm25 an25 cd25 ct25 | 26 => PySem.W.fnOf "is_body" "is_body" (defArgs s_is_body) (defBody s_is_body) (defScope s_is_body) .none kV26 dc26 pm26 an26 cd26 ct26 | 28 => PySem.W.fnOf "look_tiding" "look_tiding" (defArgs s_look_tiding) (defBody s_look_tiding) (defScope s_look_tiding) .none kV28 dc28 pm28 an28 cd28 ct28 | 53 => PySem.W.fnOf "look_ends" "look_ends" (defArgs s_look_ends) (defBody s_look_ends) (defScope s_look_ends) .none kV53 dc53 pm53 an53 cd53 ct53 | 54 => PySem.W.fnOf "__init__" "Giver.__init__" (defArgs s_Giver___init__) (defBody s_Giver___init__) (defScope s_Giver___init__) .none kV54 dc54 pm54 an54 cd54 ct54 | 55 => PySem.W.fnOf "number" "Giver.number" (defArgs s_Giver_number) (defBody s_Giver_number) (defScope s_Giver_number) .none kV55 dc55 pm55 an55 cd55 ct55 | 56 => PySem.W.fnOf "pump" "Giver.pump" (defArgs s_Giver_pump) (defBody s_Giver_pump) (defScope s_Giver_pump) .none kV56 dc56 pm56 an56 cd56 ct56 | 57 => PySem.W.fnOf "keep" "Giver.keep" (defArgs s_Giver_keep) (defBody s_Giver_keep) (defScope s_Giver_keep) .none kV57 dc57 pm57 an57 cd57 ct57 | 58 => PySem.W.fnOf "say" "Giver.say" (defArgs s_Giver_say) (defBody s_Giver_say) (defScope s_Giver_say) .none kV58 dc58 pm58 an58 cd58 ct58 | 59 => PySem.W.fnOf "place_of" "Giver.place_of" (defArgs s_Giver_place_of) (defBody s_Giver_place_of) (defScope s_Giver_place_of) .none kV59 dc59 pm59 an59 cd59 ct59 | 60 => PySem.W.fnOf "took" "Giver.took" (defArgs s_Giver_took) (defBody s_Giver_took) (defScope s_Giver_took) .none kV60 dc60 pm60 an60 cd60 ct60 | 61 => PySem.W.fnOf "again" "Giver.again" (defArgs s_Giver_again) (defBody s_Giver_again) (defScope s_Giver_again) .none kV61 dc61 pm61 an61 cd61 ct61 | 62 => PySem.W.fnOf "many" "Giver.many" (defArgs s_Giver_many) (defBody s_Giver_many) (defScope s_Giver_many) .none kV62 dc62 pm62 an62 cd62 ct62 | 63 => PySem.W.fnOf "__init__" "Taker.__init__" (defArgs s_Taker___init__) (defBody s_Taker___init__) (defScope s_Taker___init__) .none kV63 dc63 pm63 an63 cd63 ct63 | 64 => PySem.W.fnOf "took" "Taker.took" (defArgs s_Taker_took) (defBody s_Taker_took) (defScope s_Taker_took) .none kV64 dc64 pm64 an64 cd64 ct64 | 200 => PySem.W.fnOf "_law_cell" "_law_cell" (defArgs s__law_cell) (defBody s__law_cell) (defScope s__law_cell) .none kV200 dc200 pm200 an200 cd200 ct200 | 201 => PySem.W.fnOf "_law_mix" "_law_mix" (defArgs s__law_mix) (defBody s__law_mix) (defScope s__law_mix) .none kV201 dc201 pm201 an201 cd201 ct201 | 202 => PySem.W.fnOf "_law_draw" "_law_draw" (defArgs s__law_draw) (defBody s__law_draw) (defScope s__law_draw) .none kV202 dc202 pm202 an202 cd202 ct202 | 203 => PySem.W.fnOf "_law_carried" "_law_carried" (defArgs s__law_carried) (defBody s__law_carried) (defScope s__law_carried) .none kV203 dc203 pm203 an203 cd203 ct203 | 204 => PySem.W.fnOf "_law_good" "_law_good" (defArgs s__law_good) (defBody s__law_good) (defScope s__law_good) .none kV204 dc204 pm204 an204 cd204 ct204 | 205 => PySem.W.fnOf "law" "law" (defArgs s_law) (defBody s_law) (defScope s_law) .none kV205 dc205 pm205 an205 cd205 ct205 | _ => PySem.W.fnOf "is_level" "is_level" (defArgs s_is_level) (defBody s_is_level) (defScope s_is_level) .none kV0 dc0 pm0 an0 cd0 ct0) (fun | 1 => C1 | 2 => C2 | 4 => C4 | 14 => C14 | 15 => C15 | _ => C1) := {
    F_is_level := fun_mk (st := s_is_level) l0 c0 k0
    b_is_level := (fun_mk (st := s_is_level) l0 c0 k0).binds (ps := ps_is_level) fun _ _ _ _ _ _ us hl => match us, hl with | [_], _ => rfl
    m_is_level := PySem.W.mg_of X G a0
    k_is_level := k0
    F_look_name := fun_mk (st := s_look_name) l1 c1 k1
    b_look_name := (fun_mk (st := s_look_name) l1 c1 k1).binds (ps := ps_look_name) fun _ _ _ _ _ _ us hl => match us, hl with | [_], _ => rfl
    m_look_name := PySem.W.mg_of X G a1
    k_look_name := k1
    F_look_grade := fun_mk (st := s_look_grade) l4 c4 k4
    b_look_grade := (fun_mk (st := s_look_grade) l4 c4 k4).binds (ps := ps_look_grade) fun _ _ _ _ _ _ us hl => match us, hl with | [_], _ => rfl
    m_look_grade := PySem.W.mg_of X G a4
    k_look_grade := k4
    F_must := fun_mk (st := s_must) l25 c25 k25
    b_must := (fun_mk (st := s_must) l25 c25 k25).binds (ps := ps_must) fun _ _ _ _ _ _ us hl => match us, hl with | [_], _ => rfl
    m_must := PySem.W.mg_of X G a25
    k_must := k25
    F_is_body := fun_mk (st := s_is_body) l26 c26 k26
    b_is_body := (fun_mk (st := s_is_body) l26 c26 k26).binds (ps := ps_is_body) fun _ _ _ _ _ _ us hl => match us, hl with | [_], _ => rfl
    m_is_body := PySem.W.mg_of X G a26
    k_is_body := k26
    F_look_tiding := fun_mk (st := s_look_tiding) l28 c28 k28
    b_look_tiding := (fun_mk (st := s_look_tiding) l28 c28 k28).binds (ps := ps_look_tiding) fun _ _ _ _ _ _ us hl => match us, hl with | [_, _, _, _], _ => rfl
    m_look_tiding := PySem.W.mg_of X G a28
    k_look_tiding := k28
    F_look_ends := fun_mk (st := s_look_ends) l53 c53 k53
    b_look_ends := (fun_mk (st := s_look_ends) l53 c53 k53).binds (ps := ps_look_ends) fun _ _ _ _ _ _ us hl => match us, hl with | [_, _], _ => rfl
    m_look_ends := PySem.W.mg_of X G a53
    k_look_ends := k53
    F_Giver___init__ := fun_mk (st := s_Giver___init__) l54 c54 k54
    b_Giver___init__ := (fun_mk (st := s_Giver___init__) l54 c54 k54).binds (ps := ps_Giver___init__) fun _ _ _ _ _ _ us hl => match us, hl with | [_, _, _], _ => rfl
    I_Giver := ⟨mk14, a54, fi54, kp14⟩
    F_Giver_number := fun_mk (st := s_Giver_number) l55 c55 k55
    b_Giver_number := (fun_mk (st := s_Giver_number) l55 c55 k55).binds (ps := ps_Giver_number) fun _ _ _ _ _ _ us hl => match us, hl with | [_], _ => rfl
    M_Giver_number := ⟨a55, fi55, k55⟩
    F_Giver_pump := fun_mk (st := s_Giver_pump) l56 c56 k56
    b_Giver_pump := (fun_mk (st := s_Giver_pump) l56 c56 k56).binds (ps := ps_Giver_pump) fun _ _ _ _ _ _ us hl => match us, hl with | [_], _ => rfl
    M_Giver_pump := ⟨a56, fi56, k56⟩
    F_Giver_keep := fun_mk (st := s_Giver_keep) l57 c57 k57
    b_Giver_keep := (fun_mk (st := s_Giver_keep) l57 c57 k57).binds (ps := ps_Giver_keep) fun _ _ _ _ _ _ us hl => match us, hl with | [_, _, _, _, _], _ => rfl
    M_Giver_keep := ⟨a57, fi57, k57⟩
    F_Giver_say := fun_mk (st := s_Giver_say) l58 c58 k58
    b_Giver_say := (fun_mk (st := s_Giver_say) l58 c58 k58).binds (ps := ps_Giver_say) fun _ _ _ _ _ _ us hl => match us, hl with | [_, _, _, _, _], _ => rfl
    M_Giver_say := ⟨a58, fi58, k58⟩
    F_Giver_place_of := fun_mk (st := s_Giver_place_of) l59 c59 k59
    b_Giver_place_of := (fun_mk (st := s_Giver_place_of) l59 c59 k59).binds (ps := ps_Giver_place_of) fun _ _ _ _ _ _ us hl => match us, hl with | [_, _, _], _ => rfl
    M_Giver_place_of := ⟨a59, fi59, k59⟩
    F_Giver_took := fun_mk (st := s_Giver_took) l60 c60 k60
    b_Giver_took := (fun_mk (st := s_Giver_took) l60 c60 k60).binds (ps := ps_Giver_took) fun _ _ _ _ _ _ us hl => match us, hl with | [_, _], _ => rfl
    M_Giver_took := ⟨a60, fi60, k60⟩
    F_Giver_again := fun_mk (st := s_Giver_again) l61 c61 k61
    b_Giver_again := (fun_mk (st := s_Giver_again) l61 c61 k61).binds (ps := ps_Giver_again) fun _ _ _ _ _ _ us hl => match us, hl with | [_], _ => rfl
    M_Giver_again := ⟨a61, fi61, k61⟩
    F_Giver_many := fun_mk (st := s_Giver_many) l62 c62 k62
    b_Giver_many := (fun_mk (st := s_Giver_many) l62 c62 k62).binds (ps := ps_Giver_many) fun _ _ _ _ _ _ us hl => match us, hl with | [_], _ => rfl
    M_Giver_many := ⟨a62, fi62, k62⟩
    F_Taker___init__ := fun_mk (st := s_Taker___init__) l63 c63 k63
    b_Taker___init__ := (fun_mk (st := s_Taker___init__) l63 c63 k63).binds (ps := ps_Taker___init__) fun _ _ _ _ _ _ us hl => match us, hl with | [_], _ => rfl
    I_Taker := ⟨mk15, a63, fi63, kp15⟩
    F_Taker_took := fun_mk (st := s_Taker_took) l64 c64 k64
    b_Taker_took := (fun_mk (st := s_Taker_took) l64 c64 k64).binds (ps := ps_Taker_took) fun _ _ _ _ _ _ us hl => match us, hl with | [_, _], _ => rfl
    M_Taker_took := ⟨a64, fi64, k64⟩
    F__law_cell := fun_mk (st := s__law_cell) l200 c200 k200
    b__law_cell := (fun_mk (st := s__law_cell) l200 c200 k200).binds (ps := ps__law_cell) fun _ _ _ _ _ _ us hl => match us, hl with | [_, _], _ => rfl
    m__law_cell := PySem.W.mg_of X G a200
    k__law_cell := k200
    F__law_mix := fun_mk (st := s__law_mix) l201 c201 k201
    b__law_mix := (fun_mk (st := s__law_mix) l201 c201 k201).binds (ps := ps__law_mix) fun _ _ _ _ _ _ us hl => match us, hl with | [_, _], _ => rfl
    m__law_mix := PySem.W.mg_of X G a201
    k__law_mix := k201
    F__law_draw := fun_mk (st := s__law_draw) l202 c202 k202
    b__law_draw := (fun_mk (st := s__law_draw) l202 c202 k202).binds (ps := ps__law_draw) fun _ _ _ _ _ _ us hl => match us, hl with | [_, _, _], _ => rfl
    m__law_draw := PySem.W.mg_of X G a202
    k__law_draw := k202
    F__law_carried := fun_mk (st := s__law_carried) l203 c203 k203
    b__law_carried := (fun_mk (st := s__law_carried) l203 c203 k203).binds (ps := ps__law_carried) fun _ _ _ _ _ _ us hl => match us, hl with | [_, _, _, _, _], _ => rfl
    m__law_carried := PySem.W.mg_of X G a203
    k__law_carried := k203
    F__law_good := fun_mk (st := s__law_good) l204 c204 k204
    b__law_good := (fun_mk (st := s__law_good) l204 c204 k204).binds (ps := ps__law_good) fun _ _ _ _ _ _ us hl => match us, hl with | [_, _], _ => rfl
    m__law_good := PySem.W.mg_of X G a204
    k__law_good := k204
    F_law := fun_mk (st := s_law) l205 c205 k205
    b_law := (fun_mk (st := s_law) l205 c205 k205).binds (ps := ps_law) fun _ _ _ _ _ _ us hl => match us, hl with | [_], _ => rfl
    m_law := PySem.W.mg_of X G a205
    k_law := k205
    C_Giver := ⟨cp14, ch14, co14, cs14⟩
    x_Giver := PySem.W.mg_of X G x14
    A_Giver_window := na14_window
    A_Giver_most := na14_most
    A_Giver_last := na14_last
    A_Giver_waiting := na14_waiting
    A_Giver_flying := na14_flying
    C_Taker := ⟨cp15, ch15, co15, cs15⟩
    x_Taker := PySem.W.mg_of X G x15
    A_Taker_numbers := na15_numbers
    z_all := PySem.W.mg_none_of X G z_all
    z_len := PySem.W.mg_none_of X G z_len
    z_ord := PySem.W.mg_none_of X G z_ord
    z_range := PySem.W.mg_none_of X G z_range
    z_str := PySem.W.mg_none_of X G z_str
    g_MOST_BODY := ⟨_, PySem.W.mg_of X G g_MOST_BODY⟩
    g_MOST_ID := ⟨_, PySem.W.mg_of X G g_MOST_ID⟩
    g_MOST_LEVELS := ⟨_, PySem.W.mg_of X G g_MOST_LEVELS⟩
    g_MOST_SIGNS := ⟨_, PySem.W.mg_of X G g_MOST_SIGNS⟩
    g_MOST_WINDOW := ⟨_, PySem.W.mg_of X G g_MOST_WINDOW⟩
    x_BadName := PySem.W.mg_of X G x1
    y_BadName := y1
    w_BadName := w1
    v_BadName := v1
    u_BadName := u1
    x_BadPacket := PySem.W.mg_of X G x2
    y_BadPacket := y2
    w_BadPacket := w2
    v_BadPacket := v2
    u_BadPacket := u2
    x_BadLine := PySem.W.mg_of X G x4
    y_BadLine := y4
    w_BadLine := w4
    v_BadLine := v4
    u_BadLine := u4
    }
  exact ⟨_, fun s v => .of_eq rfl, fun base _ _ => (oks (P := l.prog) (w := w) (base := base) T 60).o_law.imp fun vs H Q E q => q _⟩
theorem walk {l : PySem.W.OpenLaw} {q : Program} {loose : List Str} {XP : (Str → Option Value) → Heap → Prop} {YP : World → Heap → Prop} {d : DefRec} {K : Params → PySem.W.Frag} (hn : l.most = some 63) (hdf : d.params.defaults = [])
    (hY : ∀ (w : World) (h : Heap), YP w h → (K w.params).In h)
    (F : ∀ (w : World) (mg : Str → Option Value) (fa : Addr) (h : Heap), (K w.params).In h → h.Ns mainGlobals mg → mg d.name = some (.ref fa) →
      ∃ fd : FuncData, (∀ (s : Shared) (u : Value), BindsTo s fd ⟨[u], []⟩ [("_law_script", u)]) ∧ ∀ base : Heap, (K w.params).In base → base.Ns mainGlobals mg → FnOk l.prog w (K w.params) mg base (L2.CX l.prog w) 120 fa fd ["_law_script"] (spLaw (K w.params))) :
    PySem.W.WalkO q loose XP YP l.row.toRowW d [] (fun f vs => PySem.call f vs) :=
  L2.walk_of (n := 63) (k := 120) (x := "_law_script") (CX := fun w => L2.CX l.prog w) (sp := fun w => spLaw (K w.params)) hn (by decide) hdf ⟨rfl, by decide, by decide⟩ hY F
    (fun w H a ns hl ho hS cA => law_end ho hS (law_true ns hl)) fun w H s e s' ⟨_, _, _, _, _, _, _, _, _, _, _, _, z⟩ => z
end TH.k32
open PySem PySem.W PyProof.Rows
set_option maxRecDepth 100000 in
set_option maxHeartbeats 0 in
theorem PySem.Challenge.cw_tidinghall_k32_whole_line_holds : PySem.Challenge.rw_tidinghall_k32_whole_line.Holds := by
  w_on; o_law; k_head; (case hw => w_witness2)
  k_fill
  refine TH.k32.walk (l := PySem.Challenge.rw_tidinghall_k32_whole_line) rfl rfl (fun w h Y => PySem.W.kIn_of Y) ?F
  case F =>
    intro w mg fa h KX G hmg
    refine' TH.k32.all_mk KX G hmg ?x14 ?cp14 ?ch14 ?co14 ?cs14 ?mk14 ?kp14 ?na14_window ?na14_most ?na14_last ?na14_waiting ?na14_flying ?x15 ?cp15 ?ch15 ?co15 ?cs15 ?mk15 ?kp15 ?na15_numbers ?a0 ?l0 ?c0 ?k0 ?a1 ?l1 ?c1 ?k1 ?a4 ?l4 ?c4 ?k4 ?a25 ?l25 ?c25 ?k25 ?a26 ?l26 ?c26 ?k26 ?a28 ?l28 ?c28 ?k28 ?a53 ?l53 ?c53 ?k53 ?a54 ?fi54 ?l54 ?c54 ?k54 ?a55 ?fi55 ?l55 ?c55 ?k55 ?a56 ?fi56 ?l56 ?c56 ?k56 ?a57 ?fi57 ?l57 ?c57 ?k57 ?a58 ?fi58 ?l58 ?c58 ?k58 ?a59 ?fi59 ?l59 ?c59 ?k59 ?a60 ?fi60 ?l60 ?c60 ?k60 ?a61 ?fi61 ?l61 ?c61 ?k61 ?a62 ?fi62 ?l62 ?c62 ?k62 ?a63 ?fi63 ?l63 ?c63 ?k63 ?a64 ?fi64 ?l64 ?c64 ?k64 ?a200 ?l200 ?c200 ?k200 ?a201 ?l201 ?c201 ?k201 ?a202 ?l202 ?c202 ?k202 ?a203 ?l203 ?c203 ?k203 ?a204 ?l204 ?c204 ?k204 ?a205 ?l205 ?c205 ?k205 ?z_all ?z_len ?z_ord ?z_range ?z_str ?g_MOST_BODY ?g_MOST_ID ?g_MOST_LEVELS ?g_MOST_SIGNS ?g_MOST_WINDOW ?x1 ?y1 ?w1 ?v1 ?u1 ?h1 ?x2 ?y2 ?w2 ?v2 ?u2 ?h2 ?x4 ?y4 ?w4 ?v4 ?u4 ?h4
    (case x14 => k_is)
    (case cp14 => k_is)
    (case ch14 => k_is)
    (case co14 => k_is)
    (case cs14 => k_is)
    (case mk14 => k_is)
    (case kp14 => k_is)
    (case na14_window => k_is)
    (case na14_most => k_is)
    (case na14_last => k_is)
    (case na14_waiting => k_is)
    (case na14_flying => k_is)
    (case x15 => k_is)
    (case cp15 => k_is)
    (case ch15 => k_is)
    (case co15 => k_is)
    (case cs15 => k_is)
    (case mk15 => k_is)
    (case kp15 => k_is)
    (case na15_numbers => k_is)
    (case a0 => k_is)
    (case l0 => k_is)
    (case c0 => k_is)
    (case k0 => k_is)
    (case a1 => k_is)
    (case l1 => k_is)
    (case c1 => k_is)
    (case k1 => k_is)
    (case a4 => k_is)
    (case l4 => k_is)
    (case c4 => k_is)
    (case k4 => k_is)
    (case a25 => k_is)
    (case l25 => k_is)
    (case c25 => k_is)
    (case k25 => k_is)
    (case a26 => k_is)
    (case l26 => k_is)
    (case c26 => k_is)
    (case k26 => k_is)
    (case a28 => k_is)
    (case l28 => k_is)
    (case c28 => k_is)
    (case k28 => k_is)
    (case a53 => k_is)
    (case l53 => k_is)
    (case c53 => k_is)
    (case k53 => k_is)
    (case a54 => k_is)
    (case fi54 => k_is)
    (case l54 => k_is)
    (case c54 => k_is)
    (case k54 => k_is)
    (case a55 => k_is)
    (case fi55 => k_is)
    (case l55 => k_is)
    (case c55 => k_is)
    (case k55 => k_is)
    (case a56 => k_is)
    (case fi56 => k_is)
    (case l56 => k_is)
    (case c56 => k_is)
    (case k56 => k_is)
    (case a57 => k_is)
    (case fi57 => k_is)
    (case l57 => k_is)
    (case c57 => k_is)
    (case k57 => k_is)
    (case a58 => k_is)
    (case fi58 => k_is)
    (case l58 => k_is)
    (case c58 => k_is)
    (case k58 => k_is)
    (case a59 => k_is)
    (case fi59 => k_is)
    (case l59 => k_is)
    (case c59 => k_is)
    (case k59 => k_is)
    (case a60 => k_is)
    (case fi60 => k_is)
    (case l60 => k_is)
    (case c60 => k_is)
    (case k60 => k_is)
    (case a61 => k_is)
    (case fi61 => k_is)
    (case l61 => k_is)
    (case c61 => k_is)
    (case k61 => k_is)
    (case a62 => k_is)
    (case fi62 => k_is)
    (case l62 => k_is)
    (case c62 => k_is)
    (case k62 => k_is)
    (case a63 => k_is)
    (case fi63 => k_is)
    (case l63 => k_is)
    (case c63 => k_is)
    (case k63 => k_is)
    (case a64 => k_is)
    (case fi64 => k_is)
    (case l64 => k_is)
    (case c64 => k_is)
    (case k64 => k_is)
    (case a200 => k_is)
    (case l200 => k_is)
    (case c200 => k_is)
    (case k200 => k_is)
    (case a201 => k_is)
    (case l201 => k_is)
    (case c201 => k_is)
    (case k201 => k_is)
    (case a202 => k_is)
    (case l202 => k_is)
    (case c202 => k_is)
    (case k202 => k_is)
    (case a203 => k_is)
    (case l203 => k_is)
    (case c203 => k_is)
    (case k203 => k_is)
    (case a204 => k_is)
    (case l204 => k_is)
    (case c204 => k_is)
    (case k204 => k_is)
    (case a205 => k_is)
    (case l205 => k_is)
    (case c205 => k_is)
    (case k205 => k_is)
    (case z_all => k_is)
    (case z_len => k_is)
    (case z_ord => k_is)
    (case z_range => k_is)
    (case z_str => k_is)
    (case g_MOST_BODY => k_is)
    (case g_MOST_ID => k_is)
    (case g_MOST_LEVELS => k_is)
    (case g_MOST_SIGNS => k_is)
    (case g_MOST_WINDOW => k_is)
    (case x1 => k_is)
    (case y1 => k_exc)
    (case w1 => k_is)
    (case v1 => k_is)
    (case u1 => k_is)
    (case h1 => k_is)
    (case x2 => k_is)
    (case y2 => k_exc)
    (case w2 => k_is)
    (case v2 => k_is)
    (case u2 => k_is)
    (case h2 => k_is)
    (case x4 => k_is)
    (case y4 => k_exc)
    (case w4 => k_is)
    (case v4 => k_is)
    (case u4 => k_is)
    (case h4 => k_is)
#print axioms PySem.Challenge.cw_tidinghall_k32_whole_line_holds

