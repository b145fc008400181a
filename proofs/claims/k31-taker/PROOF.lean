import PyProof.Rows.All
import Wide.All
import OpenK.AllK
import Wide.FinOn
import HandS.ForMost
import HandS.ForExc
import HandS.Flow
import HandS.Deep
import PyProof.FString5
import HandS.Text
import HandS.Iter
import HandS.SetFor
import HandS.TupAny
import PyProof.Rows.ListMulArg
import PyProof.Rows.SeqMore
import HandS.IsInst
import HandS.ExcIs
import PySem.Challenge.RW_tidinghall_k31_whole_taker
section
/-! TH0: data, a store, results, combinators. Plain Lean, no kit. -/
set_option linter.all false
namespace TH

/-- immutable data; `ref n`: the n-th object of the store; `exc c`: a caught error of the class numbered c -/
inductive D where
  | non
  | bl (b : Bool)
  | int (i : Int)
  | str (s : List Nat)
  | tup (l : List D)
  | lst (l : List D)
  | ref (n : Nat)
  | exc (c : Nat)
  deriving Inhabited

/-- the largest length -/
def LN : Nat := 16777216

inductive Ob where
  | ml (l : List D)
  | fz (l : List D)
  | md (kvs : List (D × D))
  | ins (c : Nat) (fs : List (Nat × D))
  deriving Inhabited

abbrev St := List Ob
abbrev Env := List (Option D)

/-- what an evaluation comes to -/
inductive RR (α : Type) where
  | ok (a : α) (st : St)
  | exn (c : Nat) (st : St)
  | stuck
abbrev RE := RR D
abbrev RA := RR (List D)
inductive RS where
  | nx (env : Env) (st : St)
  | ret (d : D) (st : St)
  | brk (env : Env) (st : St)
  | exn (c : Nat) (env : Env) (st : St)
  | stuck
abbrev EM := Env → St → RE
abbrev SM := Env → St → RS
/-- argument lists -/
abbrev AM := Env → St → RA

def RR.bind {α β : Type} (r : RR α) (k : α → St → RR β) : RR β := match r with
  | .ok d st => k d st
  | .exn c st => .exn c st
  | .stuck => .stuck
def RR.bindS {α : Type} (r : RR α) (env : Env) (k : α → St → RS) : RS := match r with
  | .ok d st => k d st
  | .exn c st => .exn c env st
  | .stuck => .stuck
def RS.seq (r : RS) (k : Env → St → RS) : RS := match r with
  | .nx env st => k env st
  | r => r
def ofO (o : Option D) (st : St) : RE := match o with
  | some d => .ok d st
  | none => .stuck

/-! ### equality, truth -/
def b2i (b : Bool) : Int := if b then 1 else 0
mutual
def D.eqv : D → D → Bool
  | .non, .non => true
  | .bl a, .bl b => a == b
  | .bl a, .int j => b2i a == j
  | .int i, .bl b => i == b2i b
  | .int i, .int j => i == j
  | .str x, .str y => x == y
  | .lst xs, .lst ys => D.eqvL xs ys
  | .tup xs, .tup ys => D.eqvL xs ys
  | _, _ => false
def D.eqvL : List D → List D → Bool
  | [], [] => true
  | x :: xs, y :: ys => D.eqv x y && D.eqvL xs ys
  | _, _ => false
end
def D.flat : D → Bool
  | .non => true
  | .bl _ => true
  | .int _ => true
  | .str _ => true
  | _ => false
/-- data without objects, k levels at most, signs below 55296 -/
def D.pu : Nat → D → Bool
  | _, .non => true
  | _, .bl _ => true
  | _, .int _ => true
  | _, .str s => s.all fun c => decide (c < 55296)
  | k + 1, .tup l => l.all (D.pu k)
  | k + 1, .lst l => l.all (D.pu k)
  | _, _ => false
/-- a list's items, a store's list's items -/
def asL (st : St) : D → Option (List D)
  | .lst l => some l
  | .ref n => match st[n]? with
    | some (.ml l) => some l
    | some (.fz l) => some l
    | _ => none
  | _ => none
/-- a list as data -/
def asD (st : St) : D → D
  | .ref n => match st[n]? with
    | some (.ml l) => .lst l
    | some (.fz l) => .lst l
    | _ => .ref n
  | d => d
def truthy (st : St) : D → Option Bool
  | .non => some false
  | .bl b => some b
  | .int i => some (i != 0)
  | .str s => if s.length ≤ LN then some (!s.isEmpty) else none
  | .tup l => some (!l.isEmpty)
  | .lst l => some (!l.isEmpty)
  | .ref n => match st[n]? with
    | some (.ml l) => some (!l.isEmpty)
    | some (.fz l) => some (!l.isEmpty)
    | _ => none
  | .exc _ => none

/-! ### pure operators: two values, the store -/
abbrev Op2 := D → D → St → Option D
def oAdd : Op2 := fun x y st => match x, y with
  | .int i, .int j => some (.int (i + j))
  | .str a, .str b => if a.length + b.length ≤ LN then some (.str (a ++ b)) else none
  | .tup a, .tup b => if a.length + b.length ≤ LN ∧ a.isEmpty = false then some (.tup (a ++ b)) else none
  | _, _ => none
def oSub : Op2 := fun x y _ => match x, y with
  | .int i, .int j => some (.int (i - j))
  | _, _ => none
def oMul : Op2 := fun x y _ => match x, y with
  | .int i, .int j => if (-(2 ^ 64) < i ∧ i < 2 ^ 64) ∨ (-(2 ^ 64) < j ∧ j < 2 ^ 64) then some (.int (i * j)) else none
  | _, _ => none
def oDiv : Op2 := fun x y _ => match x, y with
  | .int i, .int j => if 0 < j ∧ j < 1073741824 then some (.int (i / j)) else none
  | _, _ => none
def oMod : Op2 := fun x y _ => match x, y with
  | .int i, .int j => if 0 < j then some (.int (i % j)) else none
  | _, _ => none
def oPow : Op2 := fun x y _ => match x, y with
  | .int i, .int j => if 0 ≤ j ∧ j ≤ 1000000 ∧ i.natAbs < 2 ^ 64 then some (.int (i ^ j.toNat)) else none
  | _, _ => none
/-- == of texts, and of deep data -/
def eqD (x y : D) : Option Bool := match x, y with
  | .str a, .str b => some (a == b)
  | x, y => if x.pu 20 && y.pu 20 then some (x.eqv y) else none
def oEq : Op2 := fun x y st => (eqD (asD st x) (asD st y)).map D.bl
def oNe : Op2 := fun x y st => (eqD (asD st x) (asD st y)).map fun b => D.bl (!b)
def oLt : Op2 := fun x y _ => match x, y with
  | .int i, .int j => some (.bl (decide (i < j)))
  | .str a, .str b => some (.bl (decide (a < b)))
  | _, _ => none
def oLe : Op2 := fun x y _ => match x, y with
  | .int i, .int j => some (.bl (decide (i ≤ j)))
  | _, _ => none
def oGt : Op2 := fun x y _ => match x, y with
  | .int i, .int j => some (.bl (decide (j < i)))
  | .str a, .str b => some (.bl (decide (b < a)))
  | _, _ => none
def oGe : Op2 := fun x y _ => match x, y with
  | .int i, .int j => some (.bl (decide (j ≤ i)))
  | _, _ => none
/-- one sign in a text -/
def inStr (c : List Nat) (s : List Nat) : Option Bool := match c with
  | [a] => some (s.contains a)
  | _ => none
/-- x in items -/
def inT (x : D) (l : List D) : Option Bool :=
  if x.flat && l.all D.flat then some (l.any fun y => y.eqv x)
  else if x.pu 20 && l.all (D.pu 20) then some (l.any fun y => y.eqv x) else none
def inL (x : D) (l : List D) : Option Bool :=
  if x.flat && l.all D.flat then some (l.any fun y => y.eqv x)
  else if x.pu 20 && l.all (D.pu 20) then some (l.any fun y => y.eqv x) else none
def oIn : Op2 := fun x y st => match y with
  | .str s => match x with
    | .str c => (inStr c s).map D.bl
    | _ => none
  | .tup l => (inT x l).map D.bl
  | y => match asL st y with
    | some l => (inL x l).map D.bl
    | none => none
def oNotIn : Op2 := fun x y st => match oIn x y st with
  | some (.bl b) => some (.bl (!b))
  | _ => none
def oIs : Op2 := fun x y _ => match y with
  | .non => match x with
    | .non => some (.bl true)
    | _ => some (.bl false)
  | .bl b => match x with
    | .bl a => some (.bl (a == b))
    | _ => some (.bl false)
  | _ => none
def oIsNot : Op2 := fun x y _ => match y with
  | .non => match x with
    | .non => some (.bl false)
    | _ => some (.bl true)
  | .bl b => match x with
    | .bl a => some (.bl (!(a == b)))
    | _ => some (.bl true)
  | _ => none
/-- a place, from the end too -/
def ixN (n : Nat) (i : Int) : Option Nat := if 0 ≤ i then (if i < n then some i.toNat else none) else if -(n : Int) ≤ i then some (i + n).toNat else none
def oIx : Op2 := fun x y st => match y with
  | .int i => match x with
    | .str s => if s.length ≤ LN then (ixN s.length i).bind fun j => (s[j]?).map fun c => .str [c] else none
    | .tup l => (ixN l.length i).bind fun j => l[j]?
    | x => match asL st x with
      | some l => (ixN l.length i).bind fun j => l[j]?
      | none => none
  | _ => none

/-! ### expressions -/
def xVar (i : Nat) : EM := fun env st => match env[i]? with
  | some (some d) => .ok d st
  | _ => .stuck
def xC (d : D) : EM := fun _ st => .ok d st
def xBin (o : Op2) (f g : EM) : EM := fun env st => (f env st).bind fun x st => (g env st).bind fun y st => ofO (o x y st) st
def xNot (f : EM) : EM := fun env st => (f env st).bind fun x st => match truthy st x with
  | some b => .ok (.bl (!b)) st
  | none => .stuck
def xNeg (f : EM) : EM := fun env st => (f env st).bind fun x st => match x with
  | .int i => .ok (.int (-i)) st
  | _ => .stuck
def xAnd (f g : EM) : EM := fun env st => (f env st).bind fun x st => match truthy st x with
  | some true => g env st
  | some false => .ok x st
  | none => .stuck
def xOr (f g : EM) : EM := fun env st => (f env st).bind fun x st => match truthy st x with
  | some true => .ok x st
  | some false => g env st
  | none => .stuck
def xIf (c f g : EM) : EM := fun env st => (c env st).bind fun x st => match truthy st x with
  | some true => f env st
  | some false => g env st
  | none => .stuck
/-- a < b < c -/
def xChain (o p : Op2) (f g h : EM) : EM := fun env st => (f env st).bind fun x st => (g env st).bind fun y st => match o x y st with
  | some (.bl true) => (h env st).bind fun z st => ofO (p y z st) st
  | some (.bl false) => .ok (.bl false) st
  | _ => .stuck
def aNil : AM := fun _ st => .ok [] st
def aCons (f : EM) (g : AM) : AM := fun env st => (f env st).bind fun x st => (g env st).bind fun xs st => .ok (x :: xs) st
/-- a tuple that is written -/
def xTup (a : AM) : EM := fun env st => (a env st).bind fun xs st => if xs.length ≤ LN then .ok (.tup xs) st else .stuck
/-- what makes a new list: its items -/
abbrev LM := Env → St → RA
def lLst (a : AM) : LM := fun env st => (a env st).bind fun xs st => if xs.length ≤ LN then .ok xs st else .stuck
/-- the new list as a value; as an object of the store -/
def xLst (a : LM) : EM := fun env st => (a env st).bind fun xs st => .ok (.lst xs) st
def xMut (a : LM) : EM := fun env st => (a env st).bind fun xs st => .ok (.ref st.length) (st ++ [.ml xs])
/-- an object of the store that is a list, from now on never changed -/
def xFrz (f : EM) : EM := fun env st => (f env st).bind fun x st => match x with
  | .ref n => match st[n]? with
    | some (.ml l) => .ok (.lst l) (st.set n (.fz l))
    | some (.fz l) => .ok (.lst l) st
    | _ => .stuck
  | .lst l => .ok (.lst l) st
  | _ => .stuck
/-- a slice -/
def sIx (n d : Nat) : Option Int → Nat
  | none => d
  | some v => if v < 0 then (v + (n : Int)).toNat else min v.toNat n
def cut {α : Type} (l : List α) (lo hi : Option Int) : List α := (l.drop (sIx l.length 0 lo)).take (sIx l.length l.length hi - sIx l.length 0 lo)
/-- a slice's bound -/
def xPart : Option EM → Env → St → RR (Option Int)
  | none, _, st => .ok none st
  | some f, env, st => (f env st).bind fun x st => match x with
    | .int i => .ok (some i) st
    | _ => .stuck
def lSl (f : EM) (lo hi : Option EM) : LM := fun env st => (f env st).bind fun x st => (xPart lo env st).bind fun l st => (xPart hi env st).bind fun h st => match asL st x with
  | some xs => .ok (cut xs l h) st
  | none => .stuck
/-- a slice of a text, of a tuple -/
def xSl (f : EM) (lo hi : Option EM) : EM := fun env st => (f env st).bind fun x st => (xPart lo env st).bind fun l st => (xPart hi env st).bind fun h st => match x with
  | .str s => if s.length ≤ LN then .ok (.str (cut s l h)) st else .stuck
  | .tup xs => .ok (.tup (cut xs l h)) st
  | _ => .stuck
def lCat (f g : EM) : LM := fun env st => (f env st).bind fun x st => (g env st).bind fun y st => match asL st x, asL st y with
  | some a, some b => if a.length + b.length ≤ LN then .ok (a ++ b) st else .stuck
  | _, _ => .stuck
/-- a list some times over -/
def lRep (f g : EM) : LM := fun env st => (f env st).bind fun x st => (g env st).bind fun y st => match asL st x, y with
  | some a, .int k => if 0 ≤ k ∧ k ≤ 1000 ∧ a.length ≤ 1000 then .ok (List.replicate k.toNat a).flatten st else .stuck
  | _, _ => .stuck

/-! ### calls -/
abbrev Calls := Nat → List D → St → RE
def xCall (c : Calls) (f : Nat) (a : AM) : EM := fun env st => (a env st).bind fun ds st => c f ds st
/-- a built-in function of values -/
def xB (o : List D → St → Option D) (a : AM) : EM := fun env st => (a env st).bind fun ds st => ofO (o ds st) st
def bLen : List D → St → Option D
  | [.str s], _ => if s.length ≤ LN then some (.int s.length) else none
  | [.tup l], _ => some (.int l.length)
  | [x], st => match asL st x with
    | some l => some (.int l.length)
    | none => none
  | _, _ => none
def bOrd : List D → St → Option D
  | [.str [c]], _ => some (.int c)
  | _, _ => none
/-- a list of truths -/
def blsOf : List D → Option (List Bool)
  | [] => some []
  | .bl b :: r => (blsOf r).map fun bs => b :: bs
  | _ => none
def bAll : List D → St → Option D
  | [x], st => match asL st x with
    | some l => (blsOf l).map fun bs => .bl (bs.all id)
    | none => none
  | _, _ => none
def bAny : List D → St → Option D
  | [x], st => match asL st x with
    | some l => (blsOf l).map fun bs => .bl (bs.any id)
    | none => none
  | _, _ => none
def bMax2 : List D → St → Option D
  | [.int i, .int j], _ => some (.int (if j > i then j else i))
  | _, _ => none
def bMin2 : List D → St → Option D
  | [.int i, .int j], _ => some (.int (if j < i then j else i))
  | _, _ => none
def bInt : List D → St → Option D
  | [.int i], _ => some (.int i)
  | [.bl b], _ => some (.int (b2i b))
  | _, _ => none
/-- the numbers of built-in types: None's, bool, int, str, tuple, list -/
def tyN (st : St) : D → Option Nat
  | .non => some 0
  | .bl _ => some 1
  | .int _ => some 2
  | .str _ => some 3
  | .tup _ => some 4
  | .lst _ => some 5
  | _ => none
/-- isinstance(x, a built-in type) -/
def isiT (k : Nat) (d : D) (st : St) : Option Bool := (tyN st d).map fun t => t == k || (t == 1 && k == 2)
/-- .. of a caught error -/
def isiE (sub : Nat → Option Bool) (d : D) (_ : St) : Option Bool := match d with
  | .exc c => sub c
  | _ => none
def xIsi (ans : D → St → Option Bool) (f : EM) : EM := fun env st => (f env st).bind fun x st => ofO ((ans x st).map D.bl) st
/-- split at a sign -/
def splitL (c : Nat) : List Nat → List (List Nat)
  | [] => [[]]
  | a :: r => if a = c then [] :: splitL c r else match splitL c r with
    | [] => [[a]]
    | p :: ps => (a :: p) :: ps
def joinS (s : List Nat) : List (List Nat) → List Nat
  | [] => []
  | [p] => p
  | p :: q :: r => p ++ (s ++ joinS s (q :: r))
/-- the receiver's type is looked at ahead of the arguments -/
def isStr : D → St → Bool
  | .str _, _ => true
  | _, _ => false
def isLst (x : D) (st : St) : Bool := (asL st x).isSome
def xBm (ty : D → St → Bool) (o : Op2) (f g : EM) : EM := fun env st => (f env st).bind fun x st => if ty x st then (g env st).bind fun y st => ofO (o x y st) st else .stuck
/-- x.split(y), y a sign: the parts -/
def splitD (x y : D) : Option (List D) := match x with
  | .str s => match y with
    | .str p => match p with
      | [c] => if s.length + 2 ≤ LN ∧ c < 256 then some ((splitL c s).map D.str) else none
      | _ => none
    | _ => none
  | _ => none
def ofL (o : Option (List D)) (st : St) : RA := match o with
  | some d => .ok d st
  | none => .stuck
def lSplit (f g : EM) : LM := fun env st => (f env st).bind fun x st => if isStr x st then (g env st).bind fun y st => ofL (splitD x y) st else .stuck
def strsOf : List D → Option (List (List Nat))
  | [] => some []
  | .str s :: r => (strsOf r).map fun ss => s :: ss
  | _ => none
def oJoin : Op2 := fun x y st => match x, asL st y with
  | .str s, some l => match strsOf l with
    | some ps => if (ps.map List.length).sum + ps.length * s.length ≤ LN then some (.str (joinS s ps)) else none
    | none => none
  | _, _ => none
def oStarts : Op2 := fun x y _ => match x, y with
  | .str s, .str p => some (.bl (p.isPrefixOf s))
  | _, _ => none
/-- how many items of flat ones are as x -/
def oCount : Op2 := fun x y st => match asL st x with
  | some l => if y.flat && l.all D.flat then some (.int (l.countP fun z => z.eqv y)) else none
  | none => none
/-- the place of the first item as y -/
def oIndex : Op2 := fun x y st => match asL st x with
  | some l => if y.flat && l.all D.flat then (match l.findIdx? fun z => z.eqv y with
    | some j => some (.int j)
    | none => none) else none
  | none => none
/-- xs.append(e) -/
def xApp (f g : EM) : EM := fun env st => (f env st).bind fun x st => if isLst x st then (g env st).bind fun y st => match x with
  | .ref n => match st[n]? with
    | some (.ml l) => if l.length < LN then .ok .non (st.set n (.ml (l ++ [y]))) else .stuck
    | _ => .stuck
  | _ => .stuck else .stuck

/-- list(x), tuple(x) -/
def lList (f : EM) : LM := fun env st => (f env st).bind fun x st => match x with
  | .tup l => .ok l st
  | x => match asL st x with
    | some l => .ok l st
    | none => .stuck
def xTuple (f : EM) : EM := fun env st => (f env st).bind fun x st => match x with
  | .tup l => .ok (.tup l) st
  | x => match asL st x with
    | some l => .ok (.tup l) st
    | none => .stuck

/-! ### what is walked -/
/-- a walked thing: data, or a list of the store -/
inductive Wk where
  | data (l : List D)
  | obj (n : Nat)
abbrev RWk := RR Wk
abbrev IM := Env → St → RWk
def wkOf (x : D) (st : St) : Option Wk := match x with
  | .lst l => some (.data l)
  | .tup l => some (.data l)
  | .str s => if s.length ≤ LN then some (.data (s.map fun c => .str [c])) else none
  | .ref n => match st[n]? with
    | some (.ml _) => some (.obj n)
    | some (.fz l) => some (.data l)
    | _ => none
  | _ => none
def iVal (f : EM) : IM := fun env st => (f env st).bind fun x st => match wkOf x st with
  | some w => .ok w st
  | none => .stuck
def rng (i : Int) : Nat → List D
  | 0 => []
  | n + 1 => .int i :: rng (i + 1) n
def iRng1 (f : EM) : IM := fun env st => (f env st).bind fun x st => match x with
  | .int j => if -(2 ^ 62) ≤ j ∧ j < 2 ^ 62 then .ok (.data (rng 0 j.toNat)) st else .stuck
  | _ => .stuck
def iRng2 (f g : EM) : IM := fun env st => (f env st).bind fun x st => (g env st).bind fun y st => match x, y with
  | .int i, .int j => if -(2 ^ 62) ≤ i ∧ i < 2 ^ 62 ∧ -(2 ^ 62) ≤ j ∧ j < 2 ^ 62 then .ok (.data (rng i (j - i).toNat)) st else .stuck
  | _, _ => .stuck

/-! ### targets -/
inductive Tg where
  | name (i : Nat)
  | tup (is : List Nat)
def setAll : List Nat → List D → Env → Env
  | i :: is, d :: ds, env => setAll is ds (env.set i (some d))
  | _, _, env => env
def Tg.put (t : Tg) (d : D) (env : Env) (st : St) : Option Env := match t with
  | .name i => some (env.set i (some d))
  | .tup is => match d with
    | .tup ds => if ds.length = is.length then some (setAll is ds env) else none
    | _ => none
def Tg.slots : Tg → List Nat
  | .name i => [i]
  | .tup is => is

/-! ### comprehensions -/
def wipe (env : Env) : List Nat → Env
  | [] => env
  | v :: vs => (wipe env vs).set v none
/-- nothing is raised within -/
def noX {α : Type} : RR α → RR α
  | .exn _ _ => .stuck
  | r => r
/-- one turn: the target, the test, the element -/
def cTurn (t : Tg) (c : Option EM) (e : EM) (env : Env) (d : D) (st : St) : RR (Option D) :=
  match t.put d env st with
  | none => .stuck
  | some env1 => match c with
    | none => (noX (e env1 st)).bind fun y st => .ok (some y) st
    | some c => (noX (c env1 st)).bind fun x st => match truthy st x with
      | some true => (noX (e env1 st)).bind fun y st => .ok (some y) st
      | some false => .ok none st
      | none => .stuck
def cData (t : Tg) (c : Option EM) (e : EM) (env : Env) : List D → List D → St → RA
  | [], acc, st => .ok acc st
  | d :: ds, acc, st => (cTurn t c e env d st).bind fun y st => match y with
    | some y => if acc.length < LN then cData t c e env ds (acc ++ [y]) st else .stuck
    | none => cData t c e env ds acc st
/-- over a list of the store, read at each turn -/
def cObj (t : Tg) (c : Option EM) (e : EM) (env : Env) (n : Nat) : Nat → Nat → List D → St → RA
  | 0, _, _, _ => .stuck
  | fuel + 1, i, acc, st => match st[n]? with
    | some (.ml l) => match l[i]? with
      | none => .ok acc st
      | some d => (cTurn t c e env d st).bind fun y st => match y with
        | some y => if acc.length < LN then cObj t c e env n fuel (i + 1) (acc ++ [y]) st else .stuck
        | none => cObj t c e env n fuel (i + 1) acc st
    | _ => .stuck
/-- turns at most in a loop whose end isn't known ahead -/
def FU : Nat := 100000
def lComp (it : IM) (t : Tg) (c : Option EM) (e : EM) (own : List Nat) : LM := fun env st => (it env st).bind fun w st => match w with
  | .data l => cData t c e (wipe env own) l [] st
  | .obj n => cObj t c e (wipe env own) n FU 0 [] st

/-! ### statements -/
def sSkip : SM := fun env st => .nx env st
def sSeq (a b : SM) : SM := fun env st => (a env st).seq b
def sSet (i : Nat) (f : EM) : SM := fun env st => (f env st).bindS env fun d st => .nx (env.set i (some d)) st
/-- a comprehension's names are forgotten behind it -/
def xWipe (f : EM) : EM := f
def sTgt (t : Tg) (f : EM) : SM := fun env st => (f env st).bindS env fun d st => match t.put d env st with
  | some env => .nx env st
  | none => .stuck
def sExpr (f : EM) : SM := fun env st => (f env st).bindS env fun _ st => .nx env st
def sRet (f : EM) : SM := fun env st => (f env st).bindS env fun d st => .ret d st
def sRetN : SM := fun _ st => .ret .non st
def sIf (c : EM) (a b : SM) : SM := fun env st => (c env st).bindS env fun x st => match truthy st x with
  | some true => a env st
  | some false => b env st
  | none => .stuck
def sBrk : SM := fun env st => .brk env st
def sRaise (c : Nat) : SM := fun env st => .exn c env st
/-- o[i] = e, o a list of the store -/
def sSetL (f g e : EM) : SM := fun env st => (e env st).bindS env fun y st => (f env st).bindS env fun x st => (g env st).bindS env fun k st => match x, k with
  | .ref n, .int i => match st[n]? with
    | some (.ml l) => match ixN l.length i with
      | some j => .nx env (st.set n (.ml (l.set j y)))
      | none => .stuck
    | _ => .stuck
  | _, _ => .stuck
/-- for: over data -/
def fData (t : Tg) (b : SM) : List D → Env → St → RS
  | [], env, st => .nx env st
  | d :: ds, env, st => match t.put d env st with
    | none => .stuck
    | some env1 => match b env1 st with
      | .nx env2 st2 => fData t b ds env2 st2
      | .brk env2 st2 => .nx env2 st2
      | r => r
def fObj (t : Tg) (b : SM) (n : Nat) : Nat → Nat → Env → St → RS
  | 0, _, _, _ => .stuck
  | fuel + 1, i, env, st => match st[n]? with
    | some (.ml l) => match l[i]? with
      | none => .nx env st
      | some d => match t.put d env st with
        | none => .stuck
        | some env1 => match b env1 st with
          | .nx env2 st2 => fObj t b n fuel (i + 1) env2 st2
          | .brk env2 st2 => .nx env2 st2
          | r => r
    | _ => .stuck
def sFor (it : IM) (t : Tg) (b : SM) : SM := fun env st => (it env st).bindS env fun w st => match w with
  | .data l => fData t b l env st
  | .obj n => fObj t b n FU 0 env st
def wLoop (c : EM) (b : SM) : Nat → Env → St → RS
  | 0, _, _ => .stuck
  | fuel + 1, env, st => (c env st).bindS env fun x st => match truthy st x with
    | some true => match b env st with
      | .nx env2 st2 => wLoop c b fuel env2 st2
      | .brk env2 st2 => .nx env2 st2
      | r => r
    | some false => .nx env st
    | none => .stuck
def sWhile (c : EM) (b : SM) : SM := fun env st => wLoop c b FU env st
/-- try: b except C ..: hd; takes: which classes C takes -/
def sTry (b : SM) (takes : Nat → Option Bool) (hd : Nat → Env → St → RS) : SM := fun env st => match b env st with
  | .exn c env2 st2 => (match takes c with
    | some true => hd c env2 st2
    | some false => .exn c env2 st2
    | none => .stuck)
  | r => r
/-- .. as i: the name is gone behind the suite -/
def hdAs (i : Nat) (h : SM) (c : Nat) (env : Env) (st : St) : RS := match h (env.set i (some (.exc c))) st with
  | .nx env3 st3 => .nx (env3.set i none) st3
  | .brk env3 st3 => .brk (env3.set i none) st3
  | .exn _ _ _ => .stuck
  | r => r
def hdNo (h : SM) (_ : Nat) (env : Env) (st : St) : RS := match h env st with
  | .exn _ _ _ => .stuck
  | r => r
/-- a def's body -/
def body (n slots : Nat) (s : SM) (ds : List D) (st : St) : RE := if ds.length = n then
  match s (ds.map some ++ List.replicate (slots - ds.length) none) st with
  | .nx _ st => .ok .non st
  | .ret d st => .ok d st
  | .exn c _ st => .exn c st
  | _ => .stuck
  else .stuck

/-! ### instances: an attribute by its number; ok: the classes that are looked at; nf: how many numbers there are -/
def fget (f : Nat) : List (Nat × D) → Option D
  | [] => none
  | (g, d) :: r => if g = f then some d else fget f r
def fput (f : Nat) (d : D) : List (Nat × D) → List (Nat × D)
  | [] => [(f, d)]
  | (g, x) :: r => if g = f then (g, d) :: r else (g, x) :: fput f d r
def fok (nf : Nat) (fs : List (Nat × D)) : Bool := fs.all fun p => decide (p.1 < nf)
def xFld (nf : Nat) (ok : Nat → Bool) (f : Nat) (g : EM) : EM := fun env st => (g env st).bind fun x st => match x with
  | .ref n => match st[n]? with
    | some (.ins c fs) => if ok c && fok nf fs then ofO (fget f fs) st else .stuck
    | _ => .stuck
  | _ => .stuck
/-- o.f = e: the value first -/
def sFld (nf : Nat) (ok : Nat → Bool) (f : Nat) (g e : EM) : SM := fun env st => (e env st).bindS env fun y st => (g env st).bindS env fun x st => match x with
  | .ref n => match st[n]? with
    | some (.ins c fs) => if ok c && fok nf fs && decide (fs.length < 900) then .nx env (st.set n (.ins c (fput f y fs))) else .stuck
    | _ => .stuck
  | _ => .stuck
/-- a new instance, then its __init__ -/
def xMake (c : Calls) (cl fi : Nat) (a : AM) : EM := fun env st => (a env st).bind fun ds st => (c fi (.ref st.length :: ds) (st ++ [.ins cl []])).bind fun d st' => match d with
  | .non => .ok (.ref st.length) st'
  | _ => .stuck
/-- o.m(..), a method of the instance's class -/
def xMeth (c : Calls) (mt : Nat → Option Nat) (nf : Nat) (g : EM) (a : AM) : EM := fun env st => (g env st).bind fun x st => match x with
  | .ref n => match st[n]? with
    | some (.ins cl fs) => match mt cl with
      | some fi => if fok nf fs then (a env st).bind fun ds st => c fi (.ref n :: ds) st else .stuck
      | none => .stuck
    | _ => .stuck
  | _ => .stuck
/-- xs.remove(y), whole numbers -/
def intsOf : List D → Option (List Int)
  | [] => some []
  | .int i :: r => (intsOf r).map fun is => i :: is
  | _ => none
def xRem (f g : EM) : EM := fun env st => (f env st).bind fun x st => if isLst x st then (g env st).bind fun y st => match x, y with
  | .ref n, .int k => match st[n]? with
    | some (.ml l) => match intsOf l with
      | some is => if is.contains k then .ok .non (st.set n (.ml ((is.erase k).map D.int))) else .stuck
      | none => .stuck
    | _ => .stuck
  | _, _ => .stuck else .stuck
end TH
end
section
set_option Elab.async false
set_option linter.all false
set_option autoImplicit false
set_option maxRecDepth 100000
/-! TH1: how data and a store lie in the layer's heap. -/
namespace TH
open PySem L2 TL

/-- what the link tells: the written part, the classes' addresses, the fields' names -/
structure Lk where
  K : PySem.W.Frag
  ca : Nat → Addr
  fld : Nat → Str

/-- where the store's objects lie; what is left out (a comprehension's list while it is made) -/
structure Ly where
  adr : List Addr
  out : List Addr
/-- an address that no changing object of the store has -/
def Imm (ρ : Ly) (st : TH.St) (a : Addr) : Prop := a ∉ ρ.out ∧ ∀ n : Nat, ρ.adr[n]? = some a → ∃ l, st[n]? = some (Ob.fz l)
/-- a list, a tuple of the written part -/
def WrL (K : PySem.W.Frag) (a : Addr) (xs : List V) : Prop :=
  ∃ (o : Obj) (its : Array Value) (n : Nat), K.lookup a = some o ∧ o.cls = .type "list" ∧ o.dict = none ∧ o.data = .seq its n ∧ its.size ≤ sizeLine ∧ Vals xs its.toList
def WrT (K : PySem.W.Frag) (a : Addr) (xs : List V) : Prop :=
  ∃ (o : Obj) (its : Array Value) (n : Nat), K.lookup a = some o ∧ o.cls = .type "tuple" ∧ o.data = .seq its n ∧ its.size ≤ sizeLine ∧ Vals xs its.toList
def LstAt (L : Lk) (ρ : Ly) (st : TH.St) (H : Hp) (a : Addr) (xs : List V) : Prop := (Rd H a (.lst xs) ∧ Imm ρ st a) ∨ WrL L.K a xs
def TupAt (L : Lk) (ρ : Ly) (st : TH.St) (H : Hp) (a : Addr) (xs : List V) : Prop := (Rd H a (.tup xs) ∧ Imm ρ st a) ∨ WrT L.K a xs
/-- a caught error's object: of the class at c, without a dict -/
def excPhi (c a : Addr) : Heap → Prop := fun h => ∃ o vs, h.get? a = some o ∧ o.cls = Value.ref c ∧ o.dict = none ∧ o.data = .fields vs

mutual
inductive Rep (L : Lk) (ρ : Ly) (st : TH.St) (H : Hp) : V → D → Prop
  | non : Rep L ρ st H .non .non
  | bl (b : Bool) : Rep L ρ st H (.bl b) (.bl b)
  | int (i : Int) : Rep L ρ st H (.int i) (.int i)
  | str (x : Str) : Rep L ρ st H (.str x) (.str (tl x))
  | tup {a : Addr} {xs : List V} {l : List D} : TupAt L ρ st H a xs → Reps L ρ st H xs l → Rep L ρ st H (.ref a) (.tup l)
  | lst {a : Addr} {xs : List V} {l : List D} : LstAt L ρ st H a xs → Reps L ρ st H xs l → Rep L ρ st H (.ref a) (.lst l)
  | ref {a : Addr} {n : Nat} : ρ.adr[n]? = some a → Rep L ρ st H (.ref a) (.ref n)
  | exc {a : Addr} {c : Nat} : H a = some (.ext (excPhi (L.ca c) a)) → Imm ρ st a → Rep L ρ st H (.ref a) (.exc c)
inductive Reps (L : Lk) (ρ : Ly) (st : TH.St) (H : Hp) : List V → List D → Prop
  | nil : Reps L ρ st H [] []
  | cons {v : V} {d : D} {vs : List V} {ds : List D} : Rep L ρ st H v d → Reps L ρ st H vs ds → Reps L ρ st H (v :: vs) (d :: ds)
end

/-- keys of a dict: whole numbers and texts; tuples of these -/
def keyD : D → Option Key
  | .int i => some (.inl i)
  | .str s => some (.inr ⟨s.toArray⟩)
  | _ => none
def keysD : List D → Option (List Key)
  | [] => some []
  | d :: ds => match keyD d, keysD ds with
    | some k, some ks => some (k :: ks)
    | _, _ => none
def tkeyD : D → Option (List Key)
  | .tup l => keysD l
  | _ => none
/-- the pairs of a dict -/
inductive KVs {κ : Type} (key : D → Option κ) (L : Lk) (ρ : Ly) (st : TH.St) (H : Hp) : List (κ × V) → List (D × D) → Prop
  | nil : KVs key L ρ st H [] []
  | cons {k : κ} {v : V} {dk d : D} {kvs : List (κ × V)} {ds : List (D × D)} : key dk = some k → Rep L ρ st H v d → KVs key L ρ st H kvs ds → KVs key L ρ st H ((k, v) :: kvs) ((dk, d) :: ds)
/-- an instance's attributes -/
inductive Flds (L : Lk) (ρ : Ly) (st : TH.St) (H : Hp) : List (Str × V) → List (Nat × D) → Prop
  | nil : Flds L ρ st H [] []
  | cons {f : Nat} {v : V} {d : D} {fs : List (Str × V)} {ds : List (Nat × D)} : Rep L ρ st H v d → Flds L ρ st H fs ds → Flds L ρ st H ((L.fld f, v) :: fs) ((f, d) :: ds)
/-- an object of the store at its address -/
def ObAt (L : Lk) (ρ : Ly) (st : TH.St) (H : Hp) (a : Addr) : Ob → Prop
  | .ml l => ∃ xs, H a = some (.lst xs) ∧ Reps L ρ st H xs l
  | .fz l => ∃ xs, H a = some (.lst xs) ∧ Reps L ρ st H xs l
  | .md kvs => (∃ ks, H a = some (.dK ks) ∧ KVs keyD L ρ st H ks kvs) ∨ (∃ ks, H a = some (.dT ks) ∧ KVs tkeyD L ρ st H ks kvs)
  | .ins c fs => ∃ dx vs, H a = some (.ins (L.ca c) dx vs) ∧ Flds L ρ st H vs fs
/-- the store lies in the heap -/
structure Rel (L : Lk) (ρ : Ly) (st : TH.St) (H : Hp) : Prop where
  len : ρ.adr.length = st.length
  nd : ρ.adr.Nodup
  outs : ∀ a, a ∈ ρ.out → (∃ o, H a = some o) ∧ ∀ n : Nat, ρ.adr[n]? ≠ some a
  ob : ∀ (n : Nat) (a : Addr) (o : Ob), ρ.adr[n]? = some a → st[n]? = some o → ObAt L ρ st H a o
/-- what a step keeps -/
structure Ext (ρ : Ly) (st : TH.St) (H : Hp) (ρ' : Ly) (st' : TH.St) (H' : Hp) : Prop where
  pre : ∀ (n : Nat) (a : Addr), ρ.adr[n]? = some a → ρ'.adr[n]? = some a
  keep : ∀ (a : Addr) (o : HO), H a = some o → Imm ρ st a → H' a = some o ∧ Imm ρ' st' a
  out : ρ'.out = ρ.out
  outk : ∀ a, a ∈ ρ.out → H' a = H a

theorem Ext.refl {ρ : Ly} {st : TH.St} {H : Hp} : Ext ρ st H ρ st H := ⟨fun _ _ h => h, fun _ _ h i => ⟨h, i⟩, rfl, fun _ _ => rfl⟩
section
variable {L : Lk} {ρ ρ' ρ2 : Ly} {st st' st2 : TH.St} {H H' H2 : Hp}
theorem Ext.trans (e : Ext ρ st H ρ' st' H') (e2 : Ext ρ' st' H' ρ2 st2 H2) : Ext ρ st H ρ2 st2 H2 :=
  ⟨fun n a h => e2.pre n a (e.pre n a h), fun a o h i => let ⟨h1, i1⟩ := e.keep a o h i; e2.keep a o h1 i1, e2.out.trans e.out, fun a h => (e2.outk a (by rw [e.out]; exact h)).trans (e.outk a h)⟩
theorem Ext.rd (e : Ext ρ st H ρ' st' H') {a : Addr} {u : HO} (r : Rd H a u) (i : Imm ρ st a) : Rd H' a u ∧ Imm ρ' st' a := by
  rcases r with r | ⟨o, r⟩
  · have z := e.keep a _ r i
    exact ⟨.inl z.1, z.2⟩
  · have z := e.keep a _ r i
    exact ⟨.inr ⟨o, z.1⟩, z.2⟩
theorem Ext.lst (e : Ext ρ st H ρ' st' H') {a : Addr} {xs : List V} (h : LstAt L ρ st H a xs) : LstAt L ρ' st' H' a xs := by
  rcases h with ⟨r, i⟩ | h
  · exact .inl (e.rd r i)
  · exact .inr h
theorem Ext.tup (e : Ext ρ st H ρ' st' H') {a : Addr} {xs : List V} (h : TupAt L ρ st H a xs) : TupAt L ρ' st' H' a xs := by
  rcases h with ⟨r, i⟩ | h
  · exact .inl (e.rd r i)
  · exact .inr h
mutual
theorem Rep.ext (e : Ext ρ st H ρ' st' H') : ∀ (d : D) (v : V), Rep L ρ st H v d → Rep L ρ' st' H' v d
  | .non, _, h => by cases h; exact .non
  | .bl _, _, h => by cases h; exact .bl _
  | .int _, _, h => by cases h; exact .int _
  | .str _, _, h => by cases h; exact .str _
  | .tup l, _, h => by
    cases h with
    | tup h1 h2 => exact .tup (e.tup h1) (Reps.ext e l _ h2)
  | .lst l, _, h => by
    cases h with
    | lst h1 h2 => exact .lst (e.lst h1) (Reps.ext e l _ h2)
  | .ref n, _, h => by
    cases h with
    | ref h1 => exact .ref (e.pre _ _ h1)
  | .exc c, _, h => by
    cases h with
    | exc h1 h2 =>
      have z := e.keep _ _ h1 h2
      exact .exc z.1 z.2
theorem Reps.ext (e : Ext ρ st H ρ' st' H') : ∀ (ds : List D) (vs : List V), Reps L ρ st H vs ds → Reps L ρ' st' H' vs ds
  | [], _, h => by cases h; exact .nil
  | d :: ds, _, h => by
    cases h with
    | cons h1 h2 => exact .cons (Rep.ext e d _ h1) (Reps.ext e ds _ h2)
end
theorem KVs.ext {κ : Type} {key : D → Option κ} (e : Ext ρ st H ρ' st' H') : ∀ {ks : List (κ × V)} {ds : List (D × D)}, KVs key L ρ st H ks ds → KVs key L ρ' st' H' ks ds
  | _, _, .nil => .nil
  | _, _, .cons h1 h2 h3 => .cons h1 (Rep.ext e _ _ h2) (KVs.ext e h3)
theorem Flds.ext (e : Ext ρ st H ρ' st' H') : ∀ {ks : List (Str × V)} {ds : List (Nat × D)}, Flds L ρ st H ks ds → Flds L ρ' st' H' ks ds
  | _, _, .nil => .nil
  | _, _, .cons h2 h3 => .cons (Rep.ext e _ _ h2) (Flds.ext e h3)
theorem Reps.length : ∀ {vs : List V} {ds : List D}, Reps L ρ st H vs ds → vs.length = ds.length
  | _, _, .nil => rfl
  | _, _, .cons _ h => congrArg (· + 1) h.length
theorem Reps.append : ∀ {vs ws : List V} {ds es : List D}, Reps L ρ st H vs ds → Reps L ρ st H ws es → Reps L ρ st H (vs ++ ws) (ds ++ es)
  | _, _, _, _, .nil, h => h
  | _, _, _, _, .cons h1 h2, h => .cons h1 (Reps.append h2 h)
theorem Reps.get : ∀ {vs : List V} {ds : List D} {i : Nat} {v : V}, Reps L ρ st H vs ds → vs[i]? = some v → ∃ d, ds[i]? = some d ∧ Rep L ρ st H v d
  | _, _, _, _, .nil, h => by simp at h
  | _, _, 0, _, .cons h1 h2, h => by simp at h; subst h; exact ⟨_, rfl, h1⟩
  | _, _, i + 1, _, .cons h1 h2, h => by simpa using Reps.get (i := i) h2 (by simpa using h)
theorem Reps.got : ∀ {vs : List V} {ds : List D} {i : Nat} {d : D}, Reps L ρ st H vs ds → ds[i]? = some d → ∃ v, vs[i]? = some v ∧ Rep L ρ st H v d
  | _, _, _, _, .nil, h => by simp at h
  | _, _, 0, _, .cons h1 h2, h => by simp at h; subst h; exact ⟨_, rfl, h1⟩
  | _, _, i + 1, _, .cons h1 h2, h => by simpa using Reps.got (i := i) h2 (by simpa using h)
theorem Reps.take : ∀ {vs : List V} {ds : List D} (n : Nat), Reps L ρ st H vs ds → Reps L ρ st H (vs.take n) (ds.take n)
  | _, _, 0, _ => .nil
  | _, _, _ + 1, .nil => .nil
  | _, _, n + 1, .cons h1 h2 => .cons h1 (Reps.take n h2)
theorem Reps.drop : ∀ {vs : List V} {ds : List D} (n : Nat), Reps L ρ st H vs ds → Reps L ρ st H (vs.drop n) (ds.drop n)
  | _, _, 0, h => h
  | _, _, _ + 1, .nil => .nil
  | _, _, n + 1, .cons h1 h2 => Reps.drop n h2
theorem Reps.set {v : V} {d : D} (h : Rep L ρ st H v d) : ∀ {vs : List V} {ds : List D} (n : Nat), Reps L ρ st H vs ds → Reps L ρ st H (vs.set n v) (ds.set n d)
  | _, _, _, .nil => .nil
  | _, _, 0, .cons _ h2 => .cons h h2
  | _, _, n + 1, .cons h1 h2 => .cons h1 (Reps.set h n h2)

/-! ### lists of the store, of data -/
theorem Rel.at (R : Rel L ρ st H) {n : Nat} {o : Ob} (h : st[n]? = some o) : ∃ a, ρ.adr[n]? = some a ∧ ObAt L ρ st H a o := by
  have hn : n < ρ.adr.length := by rw [R.len]; exact (List.getElem?_eq_some_iff.mp h).1
  exact ⟨ρ.adr[n], List.getElem?_eq_getElem hn, R.ob n _ o (List.getElem?_eq_getElem hn) h⟩
theorem LstAt.sq {a : Addr} {xs : List V} (h : LstAt L ρ st H a xs) : SqL L.K H a xs := by
  rcases h with ⟨h, _⟩ | h
  · exact .inl h
  · exact .inr h
theorem TupAt.sq {a : Addr} {xs : List V} (h : TupAt L ρ st H a xs) : SqT L.K H a xs := by
  rcases h with ⟨h, _⟩ | h
  · exact .inl h
  · exact .inr h
/-- what is a list in the evaluation lies as one -/
theorem asL_rep (R : Rel L ρ st H) {v : V} {d : D} {l : List D} (h : Rep L ρ st H v d) (e : asL st d = some l) :
    ∃ a xs, v = .ref a ∧ SqL L.K H a xs ∧ Reps L ρ st H xs l ∧ (H a = some (.lst xs) ∨ LstAt L ρ st H a xs) := by
  cases h with
  | lst h1 h2 =>
    simp only [asL, Option.some.injEq] at e
    subst e
    exact ⟨_, _, rfl, h1.sq, h2, .inr h1⟩
  | @ref a n h1 =>
    simp only [asL] at e
    cases hs : st[n]? with
    | none => rw [hs] at e; simp at e
    | some o =>
      have q := R.ob n a o h1 hs
      cases o with
      | ml l' =>
        rw [hs] at e
        simp only [Option.some.injEq] at e
        subst e
        obtain ⟨xs, q1, q2⟩ := q
        exact ⟨a, xs, rfl, SqL.of q1, q2, .inl q1⟩
      | fz l' =>
        rw [hs] at e
        simp only [Option.some.injEq] at e
        subst e
        obtain ⟨xs, q1, q2⟩ := q
        exact ⟨a, xs, rfl, SqL.of q1, q2, .inl q1⟩
      | md kvs => rw [hs] at e; simp at e
      | ins c fs => rw [hs] at e; simp at e
  | _ => simp [asL] at e
/-! ### a new object beside the store -/
theorem ObAt.there {a : Addr} {o : Ob} (h : ObAt L ρ st H a o) : ∃ u, H a = some u := by
  cases o with
  | ml l => obtain ⟨xs, q, _⟩ := h; exact ⟨_, q⟩
  | fz l => obtain ⟨xs, q, _⟩ := h; exact ⟨_, q⟩
  | md kvs =>
    rcases h with ⟨_, q, _⟩ | ⟨_, q, _⟩
    · exact ⟨_, q⟩
    · exact ⟨_, q⟩
  | ins c fs => obtain ⟨dx, vs, q, _⟩ := h; exact ⟨_, q⟩
theorem Rel.there (R : Rel L ρ st H) {n : Nat} {a : Addr} (h : ρ.adr[n]? = some a) : ∃ u, H a = some u := by
  have hn : n < st.length := by rw [← R.len]; exact (List.getElem?_eq_some_iff.mp h).1
  exact (R.ob n a st[n] h (List.getElem?_eq_getElem hn)).there
theorem Rel.out (R : Rel L ρ st H) {p : Addr} (hp : H p = none) {n : Nat} : ρ.adr[n]? ≠ some p := fun h => by
  obtain ⟨u, q⟩ := R.there h
  rw [hp] at q; cases q
theorem Rel.noout (R : Rel L ρ st H) {p : Addr} (hp : H p = none) : p ∉ ρ.out := fun h => by
  obtain ⟨⟨o, q⟩, _⟩ := R.outs p h
  rw [hp] at q; cases q
theorem Rel.neout (R : Rel L ρ st H) {p a : Addr} (hp : H p = none) (h : a ∈ ρ.out) : a ≠ p := fun e => R.noout hp (e ▸ h)
theorem Rel.neat (R : Rel L ρ st H) {a b : Addr} {n : Nat} (ha : ρ.adr[n]? = some a) (h : b ∈ ρ.out) : b ≠ a := fun e => (R.outs b h).2 n (e ▸ ha)
theorem imm_new (R : Rel L ρ st H) {p : Addr} (hp : H p = none) : Imm ρ st p := ⟨R.noout hp, fun n hn => absurd hn (R.out hp)⟩
theorem ext_new {p : Addr} {o : HO} (R : Rel L ρ st H) (hp : H p = none) : Ext ρ st H ρ st (upd H p o) :=
  ⟨fun _ _ h => h, fun a o' h i => ⟨by rw [upd_ne (ne_of_none h hp)]; exact h, i⟩, rfl, fun a h => upd_ne fun e => R.noout hp (e ▸ h)⟩
/-- an object's description under an extension that leaves its own place -/
theorem ObAt.ext (e : Ext ρ st H ρ' st' H') {a : Addr} {o : Ob} (h : ObAt L ρ st H a o) (ha : H' a = H a) : ObAt L ρ' st' H' a o := by
  cases o with
  | ml l => obtain ⟨xs, q, r⟩ := h; exact ⟨xs, ha.trans q, Reps.ext e _ _ r⟩
  | fz l => obtain ⟨xs, q, r⟩ := h; exact ⟨xs, ha.trans q, Reps.ext e _ _ r⟩
  | md kvs =>
    rcases h with ⟨ks, q, r⟩ | ⟨ks, q, r⟩
    · exact .inl ⟨ks, ha.trans q, r.ext e⟩
    · exact .inr ⟨ks, ha.trans q, r.ext e⟩
  | ins c fs => obtain ⟨dx, vs, q, r⟩ := h; exact ⟨dx, vs, ha.trans q, r.ext e⟩
theorem rel_new {p : Addr} {o : HO} (R : Rel L ρ st H) (hp : H p = none) : Rel L ρ st (upd H p o) :=
  ⟨R.len, R.nd, fun a h => ⟨by rw [upd_ne (R.neout hp h)]; exact (R.outs a h).1, (R.outs a h).2⟩, fun n a ob h1 h2 => (R.ob n a ob h1 h2).ext (ext_new R hp) (by
    rw [upd_ne]
    intro e
    subst e
    exact R.out hp h1)⟩
/-- a new object that joins the store -/
def Ly.add (ρ : Ly) (p : Addr) : Ly := ⟨ρ.adr ++ [p], ρ.out⟩
theorem ext_join {p : Addr} {o : HO} {ob : Ob} (R : Rel L ρ st H) (hp : H p = none) : Ext ρ st H (ρ.add p) (st ++ [ob]) (upd H p o) := by
  refine ⟨fun n a h => ?_, fun a o' h i => ⟨by rw [upd_ne (ne_of_none h hp)]; exact h, i.1, fun n hn => ?_⟩, rfl, fun a h => upd_ne fun e => R.noout hp (e ▸ h)⟩
  · show (ρ.adr ++ [p])[n]? = some a
    rw [List.getElem?_append_left (List.getElem?_eq_some_iff.mp h).1]; exact h
  · have hn : (ρ.adr ++ [p])[n]? = some a := hn
    by_cases hl : n < ρ.adr.length
    · rw [List.getElem?_append_left hl] at hn
      obtain ⟨l, q⟩ := i.2 n hn
      exact ⟨l, by rw [List.getElem?_append_left (by rw [← R.len]; exact hl)]; exact q⟩
    · rw [List.getElem?_append_right (Nat.le_of_not_lt hl)] at hn
      have : p = a := by
        cases hk : n - ρ.adr.length with
        | zero => rw [hk] at hn; simpa using hn
        | succ m => rw [hk] at hn; simp at hn
      subst this
      rw [hp] at h; cases h
theorem add_at {p a : Addr} {n : Nat} (h : (ρ.add p).adr[n]? = some a) : ρ.adr[n]? = some a ∨ (n = ρ.adr.length ∧ a = p) := by
  have h : (ρ.adr ++ [p])[n]? = some a := h
  by_cases hl : n < ρ.adr.length
  · rw [List.getElem?_append_left hl] at h
    exact .inl h
  · rw [List.getElem?_append_right (Nat.le_of_not_lt hl)] at h
    cases hk : n - ρ.adr.length with
    | zero =>
      rw [hk] at h
      simp only [List.getElem?_cons_zero, Option.some.injEq] at h
      exact .inr ⟨by omega, h.symm⟩
    | succ m => rw [hk] at h; simp at h
theorem rel_join {p : Addr} {o : HO} {ob : Ob} (R : Rel L ρ st H) (hp : H p = none) (h : ObAt L (ρ.add p) (st ++ [ob]) (upd H p o) p ob) : Rel L (ρ.add p) (st ++ [ob]) (upd H p o) := by
  refine ⟨by simp [Ly.add, R.len], ?_, fun a h => ⟨?_, fun n hn => ?_⟩, fun n a o' h1 h2 => ?_⟩
  · show (ρ.adr ++ [p]).Nodup
    rw [List.nodup_append]
    refine ⟨R.nd, by simp, fun a ha b hb => ?_⟩
    rw [List.mem_singleton] at hb
    subst hb
    intro e
    subst e
    obtain ⟨i, hi, e⟩ := List.mem_iff_getElem.mp ha
    exact R.out hp (n := i) (by rw [List.getElem?_eq_getElem hi, e])
  · rw [upd_ne (R.neout hp h)]
    exact (R.outs a h).1
  · rcases add_at hn with z | ⟨_, z⟩
    · exact (R.outs a h).2 n z
    · subst z
      exact R.noout hp h
  · rcases add_at h1 with z | ⟨z1, z2⟩
    · have hl : n < st.length := by rw [← R.len]; exact (List.getElem?_eq_some_iff.mp z).1
      rw [List.getElem?_append_left hl] at h2
      refine (R.ob n a o' z h2).ext (ext_join R hp) ?_
      rw [upd_ne]
      intro e
      subst e
      exact R.out hp z
    · subst z1 z2
      rw [R.len, List.getElem?_append_right (Nat.le_refl _)] at h2
      simp only [Nat.sub_self, List.getElem?_cons_zero, Option.some.injEq] at h2
      subst h2
      exact h
/-- an object of the store is changed -/
theorem nodup_at {α : Type} {l : List α} (h : l.Nodup) {m n : Nat} {a : α} (h1 : l[m]? = some a) (h2 : l[n]? = some a) : m = n := by
  obtain ⟨i1, e1⟩ := List.getElem?_eq_some_iff.mp h1
  obtain ⟨i2, e2⟩ := List.getElem?_eq_some_iff.mp h2
  exact (List.getElem_inj h).mp (e1.trans e2.symm)
theorem ext_set {n : Nat} {a : Addr} {o : HO} {ob ob0 : Ob} (R : Rel L ρ st H) (ha : ρ.adr[n]? = some a) (h0 : st[n]? = some ob0) (hf : ∀ l, ob0 ≠ .fz l) : Ext ρ st H ρ (st.set n ob) (upd H a o) := by
  refine ⟨fun _ _ h => h, fun b o' h i => ?_, rfl, fun b h => upd_ne fun e => (R.outs b h).2 n (e ▸ ha)⟩
  have hb : b ≠ a := fun e => by
    subst e
    obtain ⟨l, q⟩ := i.2 n ha
    rw [h0] at q
    exact hf l (Option.some.inj q)
  refine ⟨by rw [upd_ne hb]; exact h, i.1, fun m hm => ?_⟩
  obtain ⟨l, q⟩ := i.2 m hm
  refine ⟨l, ?_⟩
  rw [List.getElem?_set_ne]
  · exact q
  · intro e
    subst e
    rw [ha] at hm
    exact hb (Option.some.inj hm).symm
theorem rel_set {n : Nat} {a : Addr} {o : HO} {ob ob0 : Ob} (R : Rel L ρ st H) (ha : ρ.adr[n]? = some a) (h0 : st[n]? = some ob0) (hf : ∀ l, ob0 ≠ .fz l) (h : ObAt L ρ (st.set n ob) (upd H a o) a ob) : Rel L ρ (st.set n ob) (upd H a o) := by
  refine ⟨by simp [R.len], R.nd, fun b h => ⟨by rw [upd_ne (R.neat ha h)]; exact (R.outs b h).1, (R.outs b h).2⟩, fun m b o' h1 h2 => ?_⟩
  by_cases e : m = n
  · subst e
    rw [ha] at h1
    have hl : m < st.length := (List.getElem?_eq_some_iff.mp h0).1
    rw [List.getElem?_set_self hl] at h2
    cases h1; cases h2
    exact h
  · rw [List.getElem?_set_ne (Ne.symm e)] at h2
    refine (R.ob m b o' h1 h2).ext (ext_set R ha h0 hf) ?_
    rw [upd_ne]
    intro z
    subst z
    exact e (nodup_at R.nd h1 ha)
/-- a list of the store is frozen -/
theorem ext_frz {n : Nat} {l : List D} (h0 : st[n]? = some (.ml l)) : Ext ρ st H ρ (st.set n (.fz l)) H := by
  refine ⟨fun _ _ h => h, fun b o' h i => ⟨h, i.1, fun m hm => ?_⟩, rfl, fun _ _ => rfl⟩
  obtain ⟨l', q⟩ := i.2 m hm
  by_cases e : m = n
  · subst e
    exact ⟨l, List.getElem?_set_self (List.getElem?_eq_some_iff.mp h0).1⟩
  · exact ⟨l', by rw [List.getElem?_set_ne (Ne.symm e)]; exact q⟩
theorem rel_frz {n : Nat} {l : List D} (R : Rel L ρ st H) (h0 : st[n]? = some (.ml l)) : Rel L ρ (st.set n (.fz l)) H := by
  refine ⟨by simp [R.len], R.nd, R.outs, fun m b o' h1 h2 => ?_⟩
  by_cases e : m = n
  · subst e
    have hl : m < st.length := (List.getElem?_eq_some_iff.mp h0).1
    rw [List.getElem?_set_self hl] at h2
    cases h2
    obtain ⟨xs, q1, q2⟩ := R.ob m b _ h1 h0
    exact ⟨xs, q1, Reps.ext (ext_frz h0) _ _ q2⟩
  · rw [List.getElem?_set_ne (Ne.symm e)] at h2
    exact (R.ob m b o' h1 h2).ext (ext_frz h0) rfl
/-! ### one address left out -/
def less (H : Hp) (p : Addr) : Hp := fun b => if b = p then none else H b
theorem less_ne {p b : Addr} (h : b ≠ p) : less H p b = H b := by unfold less; rw [if_neg h]
theorem less_same {p : Addr} : less H p p = none := by unfold less; rw [if_pos rfl]
theorem less_upd {p : Addr} {o : HO} (h : H p = some o) : upd (less H p) p o = H := by
  funext b
  by_cases e : b = p
  · subst e; rw [upd_same, h]
  · rw [upd_ne e, less_ne e]
/-- from the layout with p left out to the heap without it -/
def Ly.less (ρ : Ly) (o : List Addr) : Ly := ⟨ρ.adr, o⟩
theorem imm_less {p a : Addr} {o : List Addr} (ho : ρ.out = p :: o) (i : Imm ρ st a) : a ≠ p ∧ Imm (ρ.less o) st a := by
  have h := i.1
  rw [ho, List.mem_cons, not_or] at h
  exact ⟨h.1, h.2, i.2⟩
theorem rd_less {p a : Addr} {u : HO} (h : a ≠ p) (r : Rd H a u) : Rd (TH.less H p) a u := by
  rcases r with r | ⟨o, r⟩
  · exact .inl (by rw [less_ne h]; exact r)
  · exact .inr ⟨o, by rw [less_ne h]; exact r⟩
mutual
theorem Rep.less {p : Addr} {o : List Addr} (ho : ρ.out = p :: o) : ∀ (d : D) (v : V), Rep L ρ st H v d → Rep L (ρ.less o) st (TH.less H p) v d
  | .non, _, h => by cases h; exact .non
  | .bl _, _, h => by cases h; exact .bl _
  | .int _, _, h => by cases h; exact .int _
  | .str _, _, h => by cases h; exact .str _
  | .tup l, _, h => by
    cases h with
    | tup h1 h2 =>
      refine .tup ?_ (Reps.less ho l _ h2)
      rcases h1 with ⟨r, i⟩ | h1
      · exact .inl ⟨rd_less (imm_less ho i).1 r, (imm_less ho i).2⟩
      · exact .inr h1
  | .lst l, _, h => by
    cases h with
    | lst h1 h2 =>
      refine .lst ?_ (Reps.less ho l _ h2)
      rcases h1 with ⟨r, i⟩ | h1
      · exact .inl ⟨rd_less (imm_less ho i).1 r, (imm_less ho i).2⟩
      · exact .inr h1
  | .ref n, _, h => by
    cases h with
    | ref h1 => exact .ref h1
  | .exc c, _, h => by
    cases h with
    | exc h1 h2 => exact .exc (by rw [less_ne (imm_less ho h2).1]; exact h1) (imm_less ho h2).2
theorem Reps.less {p : Addr} {o : List Addr} (ho : ρ.out = p :: o) : ∀ (ds : List D) (vs : List V), Reps L ρ st H vs ds → Reps L (ρ.less o) st (TH.less H p) vs ds
  | [], _, h => by cases h; exact .nil
  | d :: ds, _, h => by
    cases h with
    | cons h1 h2 => exact .cons (Rep.less ho d _ h1) (Reps.less ho ds _ h2)
end
theorem KVs.less {κ : Type} {key : D → Option κ} {p : Addr} {o : List Addr} (ho : ρ.out = p :: o) : ∀ {ks : List (κ × V)} {ds : List (D × D)}, KVs key L ρ st H ks ds → KVs key L (ρ.less o) st (TH.less H p) ks ds
  | _, _, .nil => .nil
  | _, _, .cons h1 h2 h3 => .cons h1 (Rep.less ho _ _ h2) (KVs.less ho h3)
theorem Flds.less {p : Addr} {o : List Addr} (ho : ρ.out = p :: o) : ∀ {ks : List (Str × V)} {ds : List (Nat × D)}, Flds L ρ st H ks ds → Flds L (ρ.less o) st (TH.less H p) ks ds
  | _, _, .nil => .nil
  | _, _, .cons h2 h3 => .cons (Rep.less ho _ _ h2) (Flds.less ho h3)
theorem ObAt.less {p a : Addr} {o : List Addr} (ho : ρ.out = p :: o) (ha : a ≠ p) {ob : Ob} (h : ObAt L ρ st H a ob) : ObAt L (ρ.less o) st (TH.less H p) a ob := by
  cases ob with
  | ml l => obtain ⟨xs, q, r⟩ := h; exact ⟨xs, (less_ne ha).trans q, Reps.less ho _ _ r⟩
  | fz l => obtain ⟨xs, q, r⟩ := h; exact ⟨xs, (less_ne ha).trans q, Reps.less ho _ _ r⟩
  | md kvs =>
    rcases h with ⟨ks, q, r⟩ | ⟨ks, q, r⟩
    · exact .inl ⟨ks, (less_ne ha).trans q, r.less ho⟩
    · exact .inr ⟨ks, (less_ne ha).trans q, r.less ho⟩
  | ins c fs => obtain ⟨dx, vs, q, r⟩ := h; exact ⟨dx, vs, (less_ne ha).trans q, r.less ho⟩
theorem Rel.less {p : Addr} {o : List Addr} (ho : ρ.out = p :: o) (hp : p ∉ o) (R : Rel L ρ st H) : Rel L (ρ.less o) st (TH.less H p) := by
  have hm : p ∈ ρ.out := by rw [ho]; exact List.mem_cons_self
  refine ⟨R.len, R.nd, fun a ha => ?_, fun n a ob h1 h2 => (R.ob n a ob h1 h2).less ho fun e => (R.outs p hm).2 n (e ▸ h1)⟩
  have ha' : a ∈ ρ.out := by rw [ho]; exact List.mem_cons_of_mem _ ha
  refine ⟨?_, (R.outs a ha').2⟩
  rw [less_ne (show a ≠ p from fun e => hp (e ▸ ha))]
  exact (R.outs a ha').1
/-- the way in: a new object, left out -/
def Ly.more (ρ : Ly) (p : Addr) : Ly := ⟨ρ.adr, p :: ρ.out⟩
theorem imm_more {p a : Addr} (h : a ≠ p) (i : Imm ρ st a) : Imm (ρ.more p) st a := ⟨by
  show a ∉ p :: ρ.out
  rw [List.mem_cons, not_or]
  exact ⟨h, i.1⟩, i.2⟩
theorem rd_there {a : Addr} {u : HO} (r : Rd H a u) : ∃ o, H a = some o := by
  rcases r with r | ⟨o, r⟩
  · exact ⟨_, r⟩
  · exact ⟨_, r⟩
theorem rd_new {p a : Addr} {u o : HO} (hp : H p = none) (r : Rd H a u) : a ≠ p ∧ Rd (upd H p o) a u := by
  obtain ⟨z, q⟩ := rd_there r
  have h := ne_of_none q hp
  rcases r with r | ⟨o', r⟩
  · exact ⟨h, .inl (by rw [upd_ne h]; exact r)⟩
  · exact ⟨h, .inr ⟨o', by rw [upd_ne h]; exact r⟩⟩
mutual
theorem Rep.more {p : Addr} {o : HO} (hp : H p = none) : ∀ (d : D) (v : V), Rep L ρ st H v d → Rep L (ρ.more p) st (upd H p o) v d
  | .non, _, h => by cases h; exact .non
  | .bl _, _, h => by cases h; exact .bl _
  | .int _, _, h => by cases h; exact .int _
  | .str _, _, h => by cases h; exact .str _
  | .tup l, _, h => by
    cases h with
    | tup h1 h2 =>
      refine .tup ?_ (Reps.more hp l _ h2)
      rcases h1 with ⟨r, i⟩ | h1
      · exact .inl ⟨(rd_new hp r).2, imm_more (rd_new (o := o) hp r).1 i⟩
      · exact .inr h1
  | .lst l, _, h => by
    cases h with
    | lst h1 h2 =>
      refine .lst ?_ (Reps.more hp l _ h2)
      rcases h1 with ⟨r, i⟩ | h1
      · exact .inl ⟨(rd_new hp r).2, imm_more (rd_new (o := o) hp r).1 i⟩
      · exact .inr h1
  | .ref n, _, h => by
    cases h with
    | ref h1 => exact .ref h1
  | .exc c, _, h => by
    cases h with
    | exc h1 h2 =>
      have z := ne_of_none h1 hp
      exact .exc (by rw [upd_ne z]; exact h1) (imm_more z h2)
theorem Reps.more {p : Addr} {o : HO} (hp : H p = none) : ∀ (ds : List D) (vs : List V), Reps L ρ st H vs ds → Reps L (ρ.more p) st (upd H p o) vs ds
  | [], _, h => by cases h; exact .nil
  | d :: ds, _, h => by
    cases h with
    | cons h1 h2 => exact .cons (Rep.more hp d _ h1) (Reps.more hp ds _ h2)
end
theorem KVs.more {κ : Type} {key : D → Option κ} {p : Addr} {o : HO} (hp : H p = none) : ∀ {ks : List (κ × V)} {ds : List (D × D)}, KVs key L ρ st H ks ds → KVs key L (ρ.more p) st (upd H p o) ks ds
  | _, _, .nil => .nil
  | _, _, .cons h1 h2 h3 => .cons h1 (Rep.more hp _ _ h2) (KVs.more hp h3)
theorem Flds.more {p : Addr} {o : HO} (hp : H p = none) : ∀ {ks : List (Str × V)} {ds : List (Nat × D)}, Flds L ρ st H ks ds → Flds L (ρ.more p) st (upd H p o) ks ds
  | _, _, .nil => .nil
  | _, _, .cons h2 h3 => .cons (Rep.more hp _ _ h2) (Flds.more hp h3)
theorem ObAt.more {p a : Addr} {o : HO} (hp : H p = none) (ha : a ≠ p) {ob : Ob} (h : ObAt L ρ st H a ob) : ObAt L (ρ.more p) st (upd H p o) a ob := by
  cases ob with
  | ml l => obtain ⟨xs, q, r⟩ := h; exact ⟨xs, (upd_ne ha).trans q, Reps.more hp _ _ r⟩
  | fz l => obtain ⟨xs, q, r⟩ := h; exact ⟨xs, (upd_ne ha).trans q, Reps.more hp _ _ r⟩
  | md kvs =>
    rcases h with ⟨ks, q, r⟩ | ⟨ks, q, r⟩
    · exact .inl ⟨ks, (upd_ne ha).trans q, r.more hp⟩
    · exact .inr ⟨ks, (upd_ne ha).trans q, r.more hp⟩
  | ins c fs => obtain ⟨dx, vs, q, r⟩ := h; exact ⟨dx, vs, (upd_ne ha).trans q, r.more hp⟩
theorem Rel.more {p : Addr} {o : HO} (hp : H p = none) (R : Rel L ρ st H) : Rel L (ρ.more p) st (upd H p o) := by
  refine ⟨R.len, R.nd, fun a ha => ?_, fun n a ob h1 h2 => (R.ob n a ob h1 h2).more hp fun e => R.out hp (e ▸ h1)⟩
  have ha : a ∈ p :: ρ.out := ha
  rcases List.mem_cons.mp ha with e | ha
  · subst e
    exact ⟨⟨o, upd_same⟩, fun n hn => R.out hp hn⟩
  · refine ⟨?_, (R.outs a ha).2⟩
    rw [upd_ne (R.neout hp ha)]
    exact (R.outs a ha).1
end
end TH
end
section
set_option Elab.async false
set_option linter.all false
set_option autoImplicit false
set_option maxRecDepth 100000
/-! TH2: the rules of expressions. -/
namespace TH
open PySem L2 TL

abbrev Sl := L2.St
/-- the frame's slots lie as the evaluation's -/
structure REnv (L : Lk) (ρ : Ly) (st : St) (H : Hp) (σ : Sl) (env : Env) : Prop where
  len : env.length = σ.length
  at_ : ∀ (i : Nat) (d : D), env[i]? = some (some d) → ∃ v, σ[i]? = some (some v) ∧ Rep L ρ st H v d

/-- what is wanted of an evaluation's end -/
abbrev Fn (α : Type) := α → Ly → St → Hp → Prop
def PostR {α : Type} (L : Lk) (W : WX) (σ : Sl) (F : Fn α) (ρ : Ly) (st : St) (H : Hp) : RR α → Prop
  | .ok a st' => ∀ (ρ' : Ly) (H' : Hp), Ext ρ st H ρ' st' H' → Rel L ρ' st' H' → F a ρ' st' H'
  | .exn c st' => ∀ (ρ' : Ly) (H' : Hp), Ext ρ st H ρ' st' H' → Rel L ρ' st' H' → W (.ref (L.ca c)) none σ H'
  | .stuck => False
def fE (L : Lk) (Q : VK) : Fn D := fun d ρ st H => ∀ v, Rep L ρ st H v d → Q v H
def fA (L : Lk) (Q : List V → Hp → Prop) : Fn (List D) := fun d ρ st H => ∀ v, Reps L ρ st H v d → Q v H
/-- a new list, at any free place -/
def fL (L : Lk) (Q : VK) : Fn (List D) := fun d ρ st H => ∀ v p, Reps L ρ st H v d → H p = none → Q (.ref p) (upd H p (.lst v))
def fT (Q : Bool → Hp → Prop) : Fn D := fun d ρ st H => ∃ b, truthy st d = some b ∧ Q b H
def wR {α : Type} (L : Lk) (W : WX) (f : Env → St → RR α) (σ : Sl) (H : Hp) (F : Fn α) : Prop := ∃ ρ st env, Rel L ρ st H ∧ REnv L ρ st H σ env ∧ PostR L W σ F ρ st H (f env st)
def wE (L : Lk) (W : WX) (f : EM) : TE := fun σ H Q => wR L W f σ H (fE L Q)
def wA (L : Lk) (W : WX) (f : AM) : TA := fun σ H Q => wR L W f σ H (fA L Q)
def wL (L : Lk) (W : WX) (f : LM) : TE := fun σ H Q => wR L W f σ H (fL L Q)
def wT (L : Lk) (W : WX) (f : EM) : TT := fun σ H Q => wR L W f σ H (fT Q)

section
variable {α β : Type} {L : Lk} {W : WX} {ρ ρ1 ρ' : Ly} {st st1 st' : St} {H H1 H' : Hp} {σ : Sl} {env : Env} {Q : VK}
theorem REnv.ext (r : REnv L ρ st H σ env) (e : Ext ρ st H ρ1 st1 H1) : REnv L ρ1 st1 H1 σ env :=
  ⟨r.len, fun i d h => let ⟨v, h1, h2⟩ := r.at_ i d h; ⟨v, h1, Rep.ext e _ _ h2⟩⟩
theorem REnv.set (r : REnv L ρ st H σ env) {v : V} {d : D} (h : Rep L ρ st H v d) (i : Nat) : REnv L ρ st H (σ.set i (some v)) (env.set i (some d)) := by
  refine ⟨by simp [r.len], fun j x hx => ?_⟩
  by_cases e : i = j
  · subst e
    by_cases hl : i < env.length
    · rw [List.getElem?_set_self hl] at hx
      cases hx
      exact ⟨v, List.getElem?_set_self (by rw [← r.len]; exact hl), h⟩
    · rw [List.getElem?_eq_none (by simpa using hl)] at hx
      cases hx
  · rw [List.getElem?_set_ne e] at hx ⊢
    exact r.at_ j x hx
theorem REnv.unset (r : REnv L ρ st H σ env) (i : Nat) : REnv L ρ st H (σ.set i none) (env.set i none) := by
  refine ⟨by simp [r.len], fun j x hx => ?_⟩
  by_cases e : i = j
  · subst e
    by_cases hl : i < env.length
    · rw [List.getElem?_set_self hl] at hx
      cases hx
    · rw [List.getElem?_eq_none (by simpa using hl)] at hx
      cases hx
  · rw [List.getElem?_set_ne e] at hx ⊢
    exact r.at_ j x hx
theorem REnv.wipe (r : REnv L ρ st H σ env) : ∀ vs : List Nat, REnv L ρ st H (L2.wipe σ vs) (TH.wipe env vs)
  | [] => r
  | v :: vs => (REnv.wipe r vs).unset v

theorem PostR.ext {F : Fn α} {r : RR α} (h : PostR L W σ F ρ st H r) (e : Ext ρ st H ρ1 st1 H1) : PostR L W σ F ρ1 st1 H1 r := by
  cases r with
  | ok d st' => exact fun ρ' H' e2 => h ρ' H' (e.trans e2)
  | exn c st' => exact fun ρ' H' e2 => h ρ' H' (e.trans e2)
  | stuck => exact h
theorem PostR.mono {F G : Fn α} {r : RR α} (i : ∀ a ρ' st' H', Ext ρ st H ρ' st' H' → Rel L ρ' st' H' → F a ρ' st' H' → G a ρ' st' H') (h : PostR L W σ F ρ st H r) : PostR L W σ G ρ st H r := by
  cases r with
  | ok d st' => exact fun ρ' H' e R => i _ _ _ _ e R (h ρ' H' e R)
  | exn c st' => exact h
  | stuck => exact h
theorem PostR.bind {F : Fn β} {r : RR α} {k : α → St → RR β} (h : PostR L W σ F ρ st H (r.bind k)) :
    PostR L W σ (fun a ρ1 st1 H1 => Ext ρ st H ρ1 st1 H1 ∧ Rel L ρ1 st1 H1 ∧ PostR L W σ F ρ1 st1 H1 (k a st1)) ρ st H r := by
  cases r with
  | ok d st' => exact fun ρ' H' e R => ⟨e, R, PostR.ext h e⟩
  | exn c st' => exact h
  | stuck => exact h
/-- the value that an evaluation gives is at hand -/
theorem PostR.here {F : Fn α} {a : α} (h : PostR L W σ F ρ st H (.ok a st)) (R : Rel L ρ st H) : F a ρ st H := h ρ H Ext.refl R
theorem wR.mono {f : Env → St → RR α} {F G : Fn α} (i : ∀ a ρ' st' H', Rel L ρ' st' H' → F a ρ' st' H' → G a ρ' st' H') (h : wR L W f σ H F) : wR L W f σ H G := by
  obtain ⟨ρ, st, env, R, N, h⟩ := h
  exact ⟨ρ, st, env, R, N, PostR.mono (fun a ρ' st' H' _ R q => i a ρ' st' H' R q) h⟩
/-- the part f of an evaluation, then k -/
theorem wR_bind {f : Env → St → RR α} {F : Fn β} {k : α → St → RR β} (R : Rel L ρ st H) (N : REnv L ρ st H σ env) (h : PostR L W σ F ρ st H ((f env st).bind k)) :
    wR L W f σ H fun a ρ1 st1 H1 => Ext ρ st H ρ1 st1 H1 ∧ Rel L ρ1 st1 H1 ∧ REnv L ρ1 st1 H1 σ env ∧ PostR L W σ F ρ1 st1 H1 (k a st1) :=
  ⟨ρ, st, env, R, N, PostR.mono (fun _ _ _ _ _ _ q => ⟨q.1, q.2.1, N.ext q.1, q.2.2⟩) (PostR.bind h)⟩
theorem wE_bind {f : EM} {F : Fn β} {k : D → St → RR β} (R : Rel L ρ st H) (N : REnv L ρ st H σ env) (h : PostR L W σ F ρ st H ((f env st).bind k)) :
    wE L W f σ H fun v H1 => ∃ ρ1 st1 d, Ext ρ st H ρ1 st1 H1 ∧ Rel L ρ1 st1 H1 ∧ REnv L ρ1 st1 H1 σ env ∧ Rep L ρ1 st1 H1 v d ∧ PostR L W σ F ρ1 st1 H1 (k d st1) :=
  wR.mono (fun a ρ' st' H' _ q v r => ⟨ρ', st', a, q.1, q.2.1, q.2.2.1, r, q.2.2.2⟩) (wR_bind R N h)
theorem wA_bind {f : AM} {F : Fn β} {k : List D → St → RR β} (R : Rel L ρ st H) (N : REnv L ρ st H σ env) (h : PostR L W σ F ρ st H ((f env st).bind k)) :
    wA L W f σ H fun v H1 => ∃ ρ1 st1 d, Ext ρ st H ρ1 st1 H1 ∧ Rel L ρ1 st1 H1 ∧ REnv L ρ1 st1 H1 σ env ∧ Reps L ρ1 st1 H1 v d ∧ PostR L W σ F ρ1 st1 H1 (k d st1) :=
  wR.mono (fun a ρ' st' H' _ q v r => ⟨ρ', st', a, q.1, q.2.1, q.2.2.1, r, q.2.2.2⟩) (wR_bind R N h)
theorem wE.mono {f : EM} {Q Q' : VK} (i : ∀ v H, Q v H → Q' v H) (h : wE L W f σ H Q) : wE L W f σ H Q' := wR.mono (fun a ρ' st' H' _ q v r => i v H' (q v r)) h
theorem wA.mono {f : AM} {Q Q' : List V → Hp → Prop} (i : ∀ v H, Q v H → Q' v H) (h : wA L W f σ H Q) : wA L W f σ H Q' := wR.mono (fun a ρ' st' H' _ q v r => i v H' (q v r)) h
theorem wL.mono {f : LM} {Q Q' : VK} (i : ∀ v H, Q v H → Q' v H) (h : wL L W f σ H Q) : wL L W f σ H Q' := wR.mono (fun a ρ' st' H' _ q v p r n => i _ _ (q v p r n)) h
theorem wT.mono {f : EM} {Q Q' : Bool → Hp → Prop} (i : ∀ v H, Q v H → Q' v H) (h : wT L W f σ H Q) : wT L W f σ H Q' := wR.mono (fun a ρ' st' H' _ ⟨b, e, q⟩ => ⟨b, e, i _ _ q⟩) h
end

/-! ### weakening -/
theorem PE.imp {X : Cx} {e : Expr} {t t' : TE} (h : PE X e t) (i : ∀ σ H Q, t' σ H Q → t σ H Q) : PE X e t' := ⟨fun pins s σ H Q I q => h.run pins s σ H Q I (i σ H Q q)⟩
theorem PT.imp {X : Cx} {e : Expr} {t t' : TT} (h : PT X e t) (i : ∀ σ H Q, t' σ H Q → t σ H Q) : PT X e t' := ⟨fun pins s σ H Q I q => h.run pins s σ H Q I (i σ H Q q)⟩
theorem PW.imp {X : Cx} {e : Expr} {t t' : TT} (h : PW X e t) (i : ∀ σ H Q, t' σ H Q → t σ H Q) : PW X e t' := ⟨fun wh pins s σ H Q I q => h.run wh pins s σ H Q I (i σ H Q q)⟩
theorem PA.imp {X : Cx} {e : List Expr} {t t' : TA} (h : PA X e t) (i : ∀ σ H Q, t' σ H Q → t σ H Q) : PA X e t' := ⟨fun pos pins s σ H Q I q => h.run pos pins s σ H Q I (i σ H Q q)⟩
theorem PS.imp {X : Cx} {e : Stmt} {t t' : TS} (h : PS X e t) (i : ∀ D σ H, t' D σ H → t D σ H) : PS X e t' := ⟨fun pins s σ H Q I q => h.run pins s σ H Q I (i Q σ H q)⟩
theorem PSs.imp {X : Cx} {e : List Stmt} {t t' : TS} (h : PSs X e t) (i : ∀ D σ H, t' D σ H → t D σ H) : PSs X e t' := ⟨fun pins s σ H Q I q => h.run pins s σ H Q I (i Q σ H q)⟩
theorem OpR.imp {X : Cx} {f : Value → Value → Sem Value} {r r' : R2} (h : OpR X f r) (i : ∀ x y H Q, r' x y H Q → r x y H Q) : OpR X f r' := fun pins s σ H x y v u Q I r1 r2 q => h pins s σ H x y v u Q I r1 r2 (i x y H Q q)
theorem IxR.imp {X : Cx} {r r' : R2} (h : IxR X r) (i : ∀ x y H Q, r' x y H Q → r x y H Q) : IxR X r' := fun a b pins s σ H x y v u Q I r1 r2 q => h a b pins s σ H x y v u Q I r1 r2 (i x y H Q q)
theorem MtR.imp {X : Cx} {id : String} {r r' : V → List V → Hp → VK → Prop} (h : MtR X id r) (i : ∀ x y H Q, r' x y H Q → r x y H Q) : MtR X id r' := fun pins s σ H x y v u Q I r1 r2 q => h pins s σ H x y v u Q I r1 r2 (i x y H Q q)
theorem CallR.imp {X : Cx} {f : Value} {r r' : List V → Hp → VK → Prop} (h : CallR X f r) (i : ∀ x H Q, r' x H Q → r x H Q) : CallR X f r' := fun pins s σ H x u Q I r1 q => h pins s σ H x u Q I r1 (i x H Q q)

/-- a two-place operation by its data: the reading -/
def VOp (L : Lk) (o : Op2) : R2 := fun x y H Q => ∃ ρ st a b d, Rel L ρ st H ∧ Rep L ρ st H x a ∧ Rep L ρ st H y b ∧ o a b st = some d ∧
  ∀ (ρ' : Ly) (H' : Hp) (v : V), Ext ρ st H ρ' st H' → Rel L ρ' st H' → Rep L ρ' st H' v d → Q v H'
/-- .. of arguments -/
def VArgs (L : Lk) (o : List D → St → Option D) : List V → Hp → VK → Prop := fun xs H Q => ∃ ρ st ds d, Rel L ρ st H ∧ Reps L ρ st H xs ds ∧ o ds st = some d ∧
  ∀ (ρ' : Ly) (H' : Hp) (v : V), Ext ρ st H ρ' st H' → Rel L ρ' st H' → Rep L ρ' st H' v d → Q v H'

section
variable {X : Cx} {L : Lk} {W : WX} {a b c : Expr} {es : List Expr} {f g h : EM} {fa : AM} {pos : Pos}
/-! ### names, constants -/
theorem de_var {i : Nat} {x : Str} (hN : X.N[i]? = some x := by rfl) (hv : Vis X.env.scope x := by first | exact Or.inl rfl | exact Or.inr (Or.inl rfl) | exact Or.inr (Or.inr rfl)) (hd : (x == ("__debug__" : Str)) = false := by decide)
    (hcd : (x == ("__classdict__" : Str)) = false := by decide) : PE X (.Name x pos) (wE L W (xVar i)) := by
  refine PE.imp (pe_var hN hv hd hcd) ?_
  rintro σ H Q ⟨ρ, st, env, R, N, h⟩
  unfold xVar at h
  cases e : env[i]? with
  | none => rw [e] at h; exact h.elim
  | some o =>
    cases o with
    | none => rw [e] at h; exact h.elim
    | some d =>
      rw [e] at h
      obtain ⟨v, h1, h2⟩ := N.at_ i d e
      exact ⟨v, h1, h.here R v h2⟩
theorem de_con {e : Expr} {v : V} {d : D} (he : PE X e (tC v)) (hr : ∀ ρ st H, Rep L ρ st H v d) : PE X e (wE L W (xC d)) := by
  refine PE.imp he ?_
  rintro σ H Q ⟨ρ, st, env, R, N, h⟩
  exact PostR.here h R v (hr _ _ _)
theorem de_int {i j} : PE X (.Constant (.int i) j pos) (wE L W (xC (.int i))) := de_con pe_int fun _ _ _ => .int i
theorem de_bl {i j} : PE X (.Constant (.bool i) j pos) (wE L W (xC (.bl i))) := de_con pe_bl fun _ _ _ => .bl i
theorem de_non {j} : PE X (.Constant .none j pos) (wE L W (xC .non)) := de_con pe_non fun _ _ _ => .non
theorem de_str {i j} {s : List Nat} (e : tl i = s := by rfl) : PE X (.Constant (.str i) j pos) (wE L W (xC (.str s))) := by
  subst e
  exact de_con pe_str fun _ _ _ => .str i

/-! ### operators -/
theorem ofO_post {o : Option D} {ρ : Ly} {st : St} {H : Hp} {σ : Sl} {F : Fn D} (h : PostR L W σ F ρ st H (ofO o st)) : ∃ d, o = some d ∧ PostR L W σ F ρ st H (.ok d st) := by
  cases o with
  | none => exact h.elim
  | some d => exact ⟨d, rfl, h⟩
theorem wE_bin {o : Op2} {σ : Sl} {H : Hp} {Q : VK} (q : wE L W (xBin o f g) σ H Q) : tOp (VOp L o) (wE L W f) (wE L W g) σ H Q := by
  obtain ⟨ρ, st, env, R, N, q⟩ := q
  refine wE.mono ?_ (wE_bind R N q)
  rintro x H1 ⟨ρ1, st1, d1, e1, R1, N1, r1, q1⟩
  refine wE.mono ?_ (wE_bind R1 N1 q1)
  rintro y H2 ⟨ρ2, st2, d2, e2, R2, N2, r2, q2⟩
  obtain ⟨d, ed, q3⟩ := ofO_post q2
  exact ⟨ρ2, st2, d1, d2, d, R2, Rep.ext e2 _ _ r1, r2, ed, fun ρ' H' v e R r => q3 ρ' H' e R v r⟩
theorem de_bin {op : Operator} {o : Op2} (ho : OpR X (binaryOp op) (VOp L o)) (ha : PE X a (wE L W f)) (hb : PE X b (wE L W g)) : PE X (.BinOp a op b pos) (wE L W (xBin o f g)) :=
  PE.imp (pe_op ho ha hb) fun σ H Q q => wE_bin q
theorem de_cmp {op : CmpOp} {o : Op2} (ho : OpR X (compareOp op) (VOp L o)) (ha : PE X a (wE L W f)) (hb : PE X b (wE L W g)) (hm : behindInMarks op b = false := by first | exact nomark _ | rfl | with_unfolding_all rfl) : PE X (.Compare a [op] [b] pos) (wE L W (xBin o f g)) :=
  PE.imp (pe_cmpR ho ha hb hm) fun σ H Q q => wE_bin q
theorem de_ix {o : Op2} (ho : IxR X (VOp L o)) (ha : PE X a (wE L W f)) (hb : PE X b (wE L W g)) (hs : PlainIx b := by exact fun _ _ => rfl) : PE X (.Subscript a b pos) (wE L W (xBin o f g)) :=
  PE.imp (pe_ix ho ha hb hs) fun σ H Q q => wE_bin q

/-! ### truth -/
theorem tru_rep {ρ : Ly} {st : St} {H : Hp} {v : V} {d : D} {k : Bool} (R : Rel L ρ st H) (r : Rep L ρ st H v d) (e : truthy st d = some k) : TruV L.K v H k := by
  cases r with
  | non => simp only [truthy, Option.some.injEq] at e; exact e.symm
  | bl b => simp [truthy] at e; exact e.symm
  | int i => simp [truthy] at e; exact e.symm
  | str x =>
    simp only [truthy] at e
    split at e
    · rename_i hl
      simp only [Option.some.injEq] at e
      refine ⟨by rw [len_tl]; exact hl, ?_⟩
      rw [← e, len_tl]
      cases tl x <;> simp
      omega
    · cases e
  | tup h1 h2 =>
    simp only [truthy, Option.some.injEq] at e
    refine .inr (.inl ⟨_, h1.sq, ?_⟩)
    rw [← e]
    cases h2 <;> rfl
  | lst h1 h2 =>
    simp only [truthy, Option.some.injEq] at e
    refine .inl ⟨_, h1.sq, ?_⟩
    rw [← e]
    cases h2 <;> rfl
  | @ref a n h1 =>
    simp only [truthy] at e
    cases hs : st[n]? with
    | none => rw [hs] at e; simp at e
    | some o =>
      have q := R.ob n a o h1 hs
      rw [hs] at e
      cases o with
      | ml l =>
        obtain ⟨xs, q1, q2⟩ := q
        simp only [Option.some.injEq] at e
        refine .inl ⟨_, SqL.of q1, ?_⟩
        rw [← e]
        cases q2 <;> rfl
      | fz l =>
        obtain ⟨xs, q1, q2⟩ := q
        simp only [Option.some.injEq] at e
        refine .inl ⟨_, SqL.of q1, ?_⟩
        rw [← e]
        cases q2 <;> rfl
      | md kvs => simp at e
      | ins c fs => simp at e
  | exc h1 h2 => simp [truthy] at e
theorem wE_truth {σ : Sl} {H : Hp} {Q : Bool → Hp → Prop} (hK : X.K = L.K) (q : wT L W f σ H Q) : wE L W f σ H fun x H' => ∃ k, TruV X.K x H' k ∧ Q k H' :=
  wR.mono (fun d ρ st H' R ⟨k, e, q⟩ v r => ⟨k, by rw [hK]; exact tru_rep R r e, q⟩) q
/-- any expression, as a test -/
theorem dt_truth (hK : X.K = L.K) (ha : PE X a (wE L W f)) (he : ∀ whole, isTrue a X.env whole = (do let v ← whole; standAt a.pos; holding [v] (PySem.truthy v)) := by exact fun _ => rfl) : PT X a (wT L W f) :=
  PT.imp (pt_truth ha he) fun σ H Q q => wE_truth hK q
/-- a comparison, as a test -/
theorem wT_bin {o : Op2} {σ : Sl} {H : Hp} {Q : Bool → Hp → Prop} (hb : ∀ x y st d, o x y st = some d → ∃ b, d = .bl b) (q : wT L W (xBin o f g) σ H Q) : tTest (tOp (VOp L o) (wE L W f) (wE L W g)) σ H Q := by
  obtain ⟨ρ, st, env, R, N, q⟩ := q
  refine wE.mono ?_ (wE_bind R N q)
  rintro x H1 ⟨ρ1, st1, d1, e1, R1, N1, r1, q1⟩
  refine wE.mono ?_ (wE_bind R1 N1 q1)
  rintro y H2 ⟨ρ2, st2, d2, e2, R2, N2, r2, q2⟩
  obtain ⟨d, ed, q3⟩ := ofO_post q2
  obtain ⟨k, rfl⟩ := hb _ _ _ _ ed
  refine ⟨ρ2, st2, d1, d2, _, R2, Rep.ext e2 _ _ r1, r2, ed, fun ρ' H' v e R r => ?_⟩
  cases r
  obtain ⟨k', ek, q4⟩ := q3 ρ' H' e R
  simp only [truthy, Option.some.injEq] at ek
  subst ek
  exact ⟨_, rfl, q4⟩
theorem dt_cmp {op : CmpOp} {o : Op2} (hb : ∀ x y st d, o x y st = some d → ∃ b, d = .bl b) (ho : OpR X (compareOp op) (VOp L o)) (ha : PE X a (wE L W f)) (hb' : PE X b (wE L W g)) (hm : behindInMarks op b = false := by first | exact nomark _ | rfl | with_unfolding_all rfl) : PT X (.Compare a [op] [b] pos) (wT L W (xBin o f g)) :=
  PT.imp (pt_cmpR ho ha hb' hm) fun σ H Q q => wT_bin hb q
theorem wE_chain {o p : Op2} {σ : Sl} {H : Hp} {Q : VK} (q : wE L W (xChain o p f g h) σ H Q) : tChain (VOp L o) (VOp L p) (wE L W f) (wE L W g) (wE L W h) σ H Q := by
  obtain ⟨ρ, st, env, R, N, q⟩ := q
  refine wE.mono ?_ (wE_bind R N q)
  rintro x H1 ⟨ρ1, st1, d1, e1, R1, N1, r1, q1⟩
  refine wE.mono ?_ (wE_bind R1 N1 q1)
  rintro y H2 ⟨ρ2, st2, d2, e2, R2, N2, r2, q2⟩
  cases ed : o d1 d2 st2 with
  | none => rw [ed] at q2; exact q2.elim
  | some d =>
    rw [ed] at q2
    cases d with
    | bl k =>
      refine ⟨ρ2, st2, d1, d2, _, R2, Rep.ext e2 _ _ r1, r2, ed, fun ρ' H' v e R r => ?_⟩
      cases r
      refine ⟨k, rfl, ?_⟩
      cases k with
      | true =>
        rw [if_pos rfl]
        refine wE.mono ?_ (wE_bind R (N2.ext e) (PostR.ext q2 e))
        rintro z H3 ⟨ρ3, st3, d3, e3, R3, N3, r3, q3⟩
        obtain ⟨d', ed', q4⟩ := ofO_post q3
        exact ⟨ρ3, st3, d2, d3, d', R3, Rep.ext (e.trans e3) _ _ r2, r3, ed', fun ρ' H' v e R r => q4 ρ' H' e R v r⟩
      | false =>
        rw [if_neg Bool.false_ne_true]
        exact q2 ρ' H' e R _ (.bl false)
    | _ => exact q2.elim
theorem de_chain {op op' : CmpOp} {o p : Op2} (ho : OpR X (compareOp op) (VOp L o)) (ho' : OpR X (compareOp op') (VOp L p)) (ha : PE X a (wE L W f)) (hb : PE X b (wE L W g)) (hc : PE X c (wE L W h))
    (hm : lastMarks [op, op'] [b, c] = false := by with_unfolding_all rfl) : PE X (.Compare a [op, op'] [b, c] pos) (wE L W (xChain o p f g h)) :=
  PE.imp (pe_chain ho ho' ha hb hc hm) fun σ H Q q => wE_chain q
/-- what gives truths alone -/
def Bls (f : EM) : Prop := ∀ env st d st', f env st = .ok d st' → ∃ b, d = .bl b
theorem wT_bl {σ : Sl} {H : Hp} {Q : Bool → Hp → Prop} (hb : Bls f) (q : wT L W f σ H Q) : wE L W f σ H fun x H' => ∃ k, x = .bl k ∧ Q k H' := by
  obtain ⟨ρ, st, env, R, N, q⟩ := q
  refine ⟨ρ, st, env, R, N, ?_⟩
  cases e : f env st with
  | ok d st' =>
    rw [e] at q
    obtain ⟨b, rfl⟩ := hb _ _ _ _ e
    intro ρ' H' x R' v r
    obtain ⟨k, ek, q⟩ := q ρ' H' x R'
    cases r
    simp only [truthy, Option.some.injEq] at ek
    subst ek
    exact ⟨_, rfl, q⟩
  | exn c st' => rw [e] at q; exact q
  | stuck => rw [e] at q; exact q
theorem bls_chain {o p : Op2} (hp : ∀ x y st d, p x y st = some d → ∃ b, d = .bl b) : Bls (xChain o p f g h) := by
  intro env st d st' e
  unfold xChain at e
  cases e1 : f env st with
  | ok d1 st1 =>
    rw [e1] at e
    simp only [RR.bind] at e
    cases e2 : g env st1 with
    | ok d2 st2 =>
      rw [e2] at e
      simp only at e
      split at e
      · cases e3 : h env st2 with
        | ok d3 st3 =>
          rw [e3] at e
          simp only at e
          cases e4 : p d2 d3 st3 with
          | none => rw [e4] at e; cases e
          | some d4 =>
            rw [e4] at e
            cases e
            exact hp _ _ _ _ e4
        | exn c st3 => rw [e3] at e; cases e
        | stuck => rw [e3] at e; cases e
      · cases e; exact ⟨false, rfl⟩
      · cases e
    | exn c st2 => rw [e2] at e; cases e
    | stuck => rw [e2] at e; cases e
  | exn c st1 => rw [e1] at e; cases e
  | stuck => rw [e1] at e; cases e
theorem dt_chain {op op' : CmpOp} {o p : Op2} (hp : ∀ x y st d, p x y st = some d → ∃ b, d = .bl b) (ho : OpR X (compareOp op) (VOp L o)) (ho' : OpR X (compareOp op') (VOp L p)) (ha : PE X a (wE L W f)) (hb : PE X b (wE L W g)) (hc : PE X c (wE L W h))
    (hm : lastMarks [op, op'] [b, c] = false := by with_unfolding_all rfl) : PT X (.Compare a [op, op'] [b, c] pos) (wT L W (xChain o p f g h)) :=
  PT.imp (pt_chain ho ho' ha hb hc hm) fun σ H Q q => by
    have z := wT_bl (bls_chain hp) q
    have z2 := wE_chain z
    exact z2

/-! ### and, or, not, if -/
theorem de_not (hK : X.K = L.K) (ha : PE X a (wE L W f)) : PE X (.UnaryOp .Not a pos) (wE L W (xNot f)) := by
  refine PE.imp (pe_notT ha) ?_
  rintro σ H Q ⟨ρ, st, env, R, N, q⟩
  refine wE.mono ?_ (wE_bind R N q)
  rintro x H1 ⟨ρ1, st1, d1, e1, R1, N1, r1, q1⟩
  cases ek : truthy st1 d1 with
  | none => rw [ek] at q1; exact q1.elim
  | some k =>
    rw [ek] at q1
    exact ⟨k, by rw [hK]; exact tru_rep R1 r1 ek, q1.here R1 _ (.bl _)⟩
theorem de_one {op} (h : PE X a (wE L W f)) : PE X (.BoolOp op [a] pos) (wE L W f) := pe_one h
theorem de_and {rest : List Expr} (hK : X.K = L.K) (ha : PE X a (wE L W f)) (hb : PE X (.BoolOp .And (b :: rest) pos) (wE L W g)) : PE X (.BoolOp .And (a :: b :: rest) pos) (wE L W (xAnd f g)) := by
  refine PE.imp (pe_andT ha hb) ?_
  rintro σ H Q ⟨ρ, st, env, R, N, q⟩
  refine wE.mono ?_ (wE_bind R N q)
  rintro x H1 ⟨ρ1, st1, d1, e1, R1, N1, r1, q1⟩
  cases ek : truthy st1 d1 with
  | none => rw [ek] at q1; exact q1.elim
  | some k =>
    rw [ek] at q1
    refine ⟨k, by rw [hK]; exact tru_rep R1 r1 ek, ?_⟩
    cases k with
    | true => rw [if_pos rfl]; exact ⟨ρ1, st1, env, R1, N1, q1⟩
    | false => rw [if_neg Bool.false_ne_true]; exact q1.here R1 _ r1
theorem de_or {rest : List Expr} (hK : X.K = L.K) (ha : PE X a (wE L W f)) (hb : PE X (.BoolOp .Or (b :: rest) pos) (wE L W g)) : PE X (.BoolOp .Or (a :: b :: rest) pos) (wE L W (xOr f g)) := by
  refine PE.imp (pe_orT ha hb) ?_
  rintro σ H Q ⟨ρ, st, env, R, N, q⟩
  refine wE.mono ?_ (wE_bind R N q)
  rintro x H1 ⟨ρ1, st1, d1, e1, R1, N1, r1, q1⟩
  cases ek : truthy st1 d1 with
  | none => rw [ek] at q1; exact q1.elim
  | some k =>
    rw [ek] at q1
    refine ⟨k, by rw [hK]; exact tru_rep R1 r1 ek, ?_⟩
    cases k with
    | false => rw [if_neg Bool.false_ne_true]; exact ⟨ρ1, st1, env, R1, N1, q1⟩
    | true => rw [if_pos rfl]; exact q1.here R1 _ r1
/-- in tests -/
theorem dw_one {op} (h : PT X a (wT L W f)) (e : op = BoolOp.And ∨ op = BoolOp.Or := by decide) : PW X (.BoolOp op [a] pos) (wT L W f) := by
  rcases e with rfl | rfl
  · exact pw_and1 h
  · exact pw_or1 h
theorem dw_and {rest : List Expr} (ha : PT X a (wT L W f)) (hb : PW X (.BoolOp .And (b :: rest) pos) (wT L W g)) : PW X (.BoolOp .And (a :: b :: rest) pos) (wT L W (xAnd f g)) := by
  refine PW.imp (pw_and ha hb) ?_
  rintro σ H Q ⟨ρ, st, env, R, N, q⟩
  refine ⟨ρ, st, env, R, N, PostR.mono ?_ (PostR.bind q)⟩
  rintro d ρ' st' H' e R' ⟨_, _, q⟩
  cases ek : truthy st' d with
  | none => rw [ek] at q; exact q.elim
  | some k =>
    rw [ek] at q
    refine ⟨k, ek, ?_⟩
    cases k with
    | true => rw [if_pos rfl]; exact ⟨ρ', st', env, R', N.ext e, q⟩
    | false =>
      rw [if_neg Bool.false_ne_true]
      obtain ⟨k', ek', q'⟩ := q.here R'
      rw [ek] at ek'
      cases ek'
      exact q'
theorem dw_or {rest : List Expr} (ha : PT X a (wT L W f)) (hb : PW X (.BoolOp .Or (b :: rest) pos) (wT L W g)) : PW X (.BoolOp .Or (a :: b :: rest) pos) (wT L W (xOr f g)) := by
  refine PW.imp (pw_or ha hb) ?_
  rintro σ H Q ⟨ρ, st, env, R, N, q⟩
  refine ⟨ρ, st, env, R, N, PostR.mono ?_ (PostR.bind q)⟩
  rintro d ρ' st' H' e R' ⟨_, _, q⟩
  cases ek : truthy st' d with
  | none => rw [ek] at q; exact q.elim
  | some k =>
    rw [ek] at q
    refine ⟨k, ek, ?_⟩
    cases k with
    | false => rw [if_neg Bool.false_ne_true]; exact ⟨ρ', st', env, R', N.ext e, q⟩
    | true =>
      rw [if_pos rfl]
      obtain ⟨k', ek', q'⟩ := q.here R'
      rw [ek] at ek'
      cases ek'
      exact q'
theorem dt_not (ha : PT X a (wT L W f)) : PT X (.UnaryOp .Not a pos) (wT L W (xNot f)) := by
  refine PT.imp (pt_not ha) ?_
  rintro σ H Q ⟨ρ, st, env, R, N, q⟩
  refine ⟨ρ, st, env, R, N, PostR.mono ?_ (PostR.bind q)⟩
  rintro d ρ' st' H' e R' ⟨_, _, q⟩
  cases ek : truthy st' d with
  | none => rw [ek] at q; exact q.elim
  | some k =>
    rw [ek] at q
    obtain ⟨k', ek', q'⟩ := q.here R'
    simp only [truthy, Option.some.injEq] at ek'
    subst ek'
    exact ⟨k, ek, q'⟩
theorem de_if (hc : PT X c (wT L W h)) (ha : PE X a (wE L W f)) (hb : PE X b (wE L W g)) : PE X (.IfExp c a b pos) (wE L W (xIf h f g)) := by
  refine PE.imp (pe_ifExp hc ha hb) ?_
  rintro σ H Q ⟨ρ, st, env, R, N, q⟩
  refine ⟨ρ, st, env, R, N, PostR.mono ?_ (PostR.bind q)⟩
  rintro d ρ' st' H' e R' ⟨_, _, q⟩
  cases ek : truthy st' d with
  | none => rw [ek] at q; exact q.elim
  | some k =>
    rw [ek] at q
    refine ⟨k, ek, ?_⟩
    cases k with
    | true => rw [if_pos rfl]; exact ⟨ρ', st', env, R', N.ext e, q⟩
    | false => rw [if_neg Bool.false_ne_true]; exact ⟨ρ', st', env, R', N.ext e, q⟩

/-! ### arguments, displays -/
theorem da_nil : PA X [] (wA L W aNil) := by
  refine PA.imp pa_nil ?_
  rintro σ H Q ⟨ρ, st, env, R, N, q⟩
  exact q.here R _ .nil
theorem da_cons (ha : PE X a (wE L W f)) (hr : PA X es (wA L W fa)) (hs : starEach (a :: es) X.env = (false, eval a X.env) :: starEach es X.env := by rfl) : PA X (a :: es) (wA L W (aCons f fa)) := by
  refine PA.imp (pa_cons ha hr hs) ?_
  rintro σ H Q ⟨ρ, st, env, R, N, q⟩
  refine wE.mono ?_ (wE_bind R N q)
  rintro x H1 ⟨ρ1, st1, d1, e1, R1, N1, r1, q1⟩
  refine wA.mono ?_ (wA_bind R1 N1 q1)
  rintro y H2 ⟨ρ2, st2, d2, e2, R2, N2, r2, q2⟩
  exact q2.here R2 _ (.cons (Rep.ext e2 _ _ r1) r2)
theorem LN_eq : (LN : Nat) = sizeLine := by rw [sizeLine_eq]; rfl
theorem de_tup {k} (ha : PA X es (wA L W fa)) : PE X (.Tuple es k pos) (wE L W (xTup fa)) := by
  refine PE.imp (pe_tup ha) ?_
  rintro σ H Q ⟨ρ, st, env, R, N, q⟩
  refine wA.mono ?_ (wA_bind R N q)
  rintro xs H1 ⟨ρ1, st1, ds, e1, R1, N1, r1, q1⟩
  by_cases hl : ds.length ≤ LN
  · rw [if_pos hl] at q1
    refine ⟨by rw [r1.length, ← LN_eq]; exact hl, fun p hp => ?_⟩
    exact q1 ρ1 (upd H1 p (.tup xs)) (ext_new R1 hp) (rel_new R1 hp) _ (.tup (.inl ⟨.inl upd_same, imm_new R1 hp⟩) (Reps.ext (ext_new R1 hp) _ _ r1))
  · rw [if_neg hl] at q1
    exact q1.elim
theorem dl_lst (ha : PA X es (wA L W fa)) : PE X (.List es pos) (wL L W (lLst fa)) := by
  refine PE.imp (pe_lst ha) ?_
  rintro σ H Q ⟨ρ, st, env, R, N, q⟩
  refine wA.mono ?_ (wA_bind R N q)
  rintro xs H1 ⟨ρ1, st1, ds, e1, R1, N1, r1, q1⟩
  by_cases hl : ds.length ≤ LN
  · rw [if_pos hl] at q1
    exact ⟨by rw [r1.length, ← LN_eq]; exact hl, fun p hp => q1.here R1 _ _ r1 hp⟩
  · rw [if_neg hl] at q1
    exact q1.elim
/-- a new list as data -/
theorem new_wL {fl : LM} {σ : Sl} {H : Hp} {Q : VK} (q : wE L W (xLst fl) σ H Q) : wL L W fl σ H Q := by
  obtain ⟨ρ, st, env, R, N, q⟩ := q
  refine ⟨ρ, st, env, R, N, PostR.mono ?_ (PostR.bind q)⟩
  rintro ds ρ' st' H' e R' ⟨_, _, q⟩ v p r hp
  exact q ρ' (upd H' p (.lst v)) (ext_new R' hp) (rel_new R' hp) _ (.lst (.inl ⟨.inl upd_same, imm_new R' hp⟩) (Reps.ext (ext_new R' hp) _ _ r))
theorem de_new {fl : LM} (ha : PE X a (wL L W fl)) : PE X a (wE L W (xLst fl)) := PE.imp ha fun _ _ _ q => new_wL q
/-- .. as an object of the store -/
theorem mut_wL {fl : LM} {σ : Sl} {H : Hp} {Q : VK} (q : wE L W (xMut fl) σ H Q) : wL L W fl σ H Q := by
  obtain ⟨ρ, st, env, R, N, q⟩ := q
  refine ⟨ρ, st, env, R, N, PostR.mono ?_ (PostR.bind q)⟩
  rintro ds ρ' st' H' e R' ⟨_, _, q⟩ v p r hp
  have x := ext_join (ob := .ml ds) (o := .lst v) R' hp
  exact q _ _ x (rel_join R' hp ⟨v, upd_same, Reps.ext x _ _ r⟩) _ (.ref (by rw [← R'.len]; show (ρ'.adr ++ [p])[ρ'.adr.length]? = some p; simp))
theorem de_mut {fl : LM} (ha : PE X a (wL L W fl)) : PE X a (wE L W (xMut fl)) := PE.imp ha fun _ _ _ q => mut_wL q
theorem de_frz (ha : PE X a (wE L W f)) : PE X a (wE L W (xFrz f)) := by
  refine PE.imp ha ?_
  rintro σ H Q ⟨ρ, st, env, R, N, q⟩
  refine wE.mono ?_ (wE_bind R N q)
  rintro x H1 ⟨ρ1, st1, d, e1, R1, N1, r1, q1⟩
  cases r1 with
  | @ref a n h1 =>
    simp only at q1
    cases hs : st1[n]? with
    | none => rw [hs] at q1; exact q1.elim
    | some o =>
      rw [hs] at q1
      cases o with
      | ml l =>
        obtain ⟨xs, z1, z2⟩ := R1.ob n a _ h1 hs
        refine q1 ρ1 H1 (ext_frz hs) (rel_frz R1 hs) _ (.lst (.inl ⟨.inl z1, fun h => (R1.outs a h).2 n h1, fun m hm => ?_⟩) (Reps.ext (ext_frz hs) _ _ z2))
        have em := nodup_at R1.nd hm h1
        subst em
        exact ⟨l, List.getElem?_set_self (List.getElem?_eq_some_iff.mp hs).1⟩
      | fz l =>
        obtain ⟨xs, z1, z2⟩ := R1.ob n a _ h1 hs
        refine q1.here R1 _ (.lst (.inl ⟨.inl z1, fun h => (R1.outs a h).2 n h1, fun m hm => ?_⟩) z2)
        have em := nodup_at R1.nd hm h1
        subst em
        exact ⟨l, hs⟩
      | md kvs => exact q1.elim
      | ins c fs => exact q1.elim
  | lst h1 h2 => exact q1.here R1 _ (.lst h1 h2)
  | _ => exact q1.elim
end
end TH
end
section
set_option Elab.async false
set_option linter.all false
set_option autoImplicit false
set_option maxRecDepth 100000
/-! TH3: the operators by values. -/
namespace TH
open PySem L2 TL
section
variable {L : Lk} {ρ : Ly} {st : St} {H : Hp}
/-! ### what a value's shape tells -/
theorem rep_int {v : V} {i : Int} (h : Rep L ρ st H v (.int i)) : v = .int i := by cases h; rfl
theorem rep_bl {v : V} {i : Bool} (h : Rep L ρ st H v (.bl i)) : v = .bl i := by cases h; rfl
theorem rep_non {v : V} (h : Rep L ρ st H v .non) : v = .non := by cases h; rfl
theorem rep_str {v : V} {s : List Nat} (h : Rep L ρ st H v (.str s)) : ∃ x, v = .str x ∧ tl x = s := by cases h; exact ⟨_, rfl, rfl⟩
theorem rep_tup {v : V} {l : List D} (h : Rep L ρ st H v (.tup l)) : ∃ a xs, v = .ref a ∧ TupAt L ρ st H a xs ∧ Reps L ρ st H xs l := by cases h with | tup h1 h2 => exact ⟨_, _, rfl, h1, h2⟩
theorem rep_mk (x : Str) {s : List Nat} (e : tl x = s) : Rep L ρ st H (.str x) (.str s) := by subst e; exact .str x
theorem tl_eq {x y : Str} : (x == y) = (tl x == tl y) := by
  by_cases e : x = y
  · subst e; simp
  · have q : ¬ tl x = tl y := fun z => e (ext_tl z)
    rw [beq_eq_false_iff_ne.mpr e, beq_eq_false_iff_ne.mpr q]
theorem flat_rep {v : V} {d : D} (h : Rep L ρ st H v d) (f : d.flat = true) : flatV v = true := by cases h <;> first | rfl | (simp [D.flat] at f)
theorem flat_eqv {v w : V} {d e : D} (h : Rep L ρ st H v d) (h2 : Rep L ρ st H w e) (f : d.flat = true) (f2 : e.flat = true) : eqV v w = d.eqv e := by
  cases h <;> cases h2 <;> first | (simp [D.flat] at f; done) | (simp [D.flat] at f2; done) | (simp [eqV, D.eqv, b2i]; done) | (simp only [eqV, D.eqv]; exact tl_eq)
theorem flats_rep : ∀ {vs : List V} {ds : List D}, Reps L ρ st H vs ds → ds.all D.flat = true → vs.all flatV = true
  | _, _, .nil, _ => rfl
  | _, _, .cons h t, f => by
    rw [List.all_cons, Bool.and_eq_true] at f ⊢
    exact ⟨flat_rep h f.1, flats_rep t f.2⟩
theorem any_flat {x : V} {d : D} (hx : Rep L ρ st H x d) (fx : d.flat = true) : ∀ {vs : List V} {ds : List D}, Reps L ρ st H vs ds → ds.all D.flat = true → inV x vs = ds.any fun y => y.eqv d
  | _, _, .nil, _ => rfl
  | _, _, .cons h t, f => by
    rw [List.all_cons, Bool.and_eq_true] at f
    have q := any_flat hx fx t f.2
    unfold inV at q ⊢
    rw [List.any_cons, List.any_cons, q, flat_eqv h hx f.1 fx]
/-! ### deep data -/
mutual
def toPy : D → PyData
  | .non => .none
  | .bl b => .bool b
  | .int i => .int i
  | .str s => .str ⟨s.toArray⟩
  | .tup l => .tuple (toPys l)
  | .lst l => .list (toPys l)
  | _ => .none
def toPys : List D → List PyData
  | [] => []
  | d :: ds => toPy d :: toPys ds
end
mutual
theorem pu_dp : ∀ (k : Nat) (d : D) (v : V), Rep L ρ st H v d → d.pu k = true → Dp L.K H v (toPy d) ∧ (toPy d).canLay0 = true ∧ (toPy d).depth ≤ k
  | k, .non, _, h, _ => by cases h; simp only [toPy]; exact ⟨.non, rfl, Nat.zero_le _⟩
  | k, .bl b, _, h, _ => by cases h; simp only [toPy]; exact ⟨.bl b, rfl, Nat.zero_le _⟩
  | k, .int i, _, h, _ => by cases h; simp only [toPy]; exact ⟨.int i, rfl, Nat.zero_le _⟩
  | k, .str s, _, h, f => by
    obtain ⟨x, rfl, rfl⟩ := rep_str h
    simp only [toPy, mk_tl]
    refine ⟨.str x, ?_, Nat.zero_le _⟩
    have f : (x.cps.toList).all (fun c => decide (c < 55296)) = true := by cases k <;> exact f
    simp only [PyData.canLay0, PyData.strOk, Array.all_eq_true]
    intro i hi
    rw [List.all_eq_true] at f
    have q := f x.cps[i] (by simp)
    have q' := of_decide_eq_true q
    exact decide_eq_true (by omega)
  | 0, .tup l, _, _, f => by simp [D.pu] at f
  | 0, .lst l, _, _, f => by simp [D.pu] at f
  | k + 1, .tup l, _, h, f => by
    obtain ⟨a, xs, rfl, h1, h2⟩ := rep_tup h
    have q := pus_dp k l xs h2 (by simpa [D.pu] using f)
    simp only [toPy]
    refine ⟨.tup h1.sq q.1, by simp only [PyData.canLay0]; exact q.2.1, ?_⟩
    simp only [PyData.depth]
    exact Nat.succ_le_succ q.2.2
  | k + 1, .lst l, _, h, f => by
    cases h with
    | lst h1 h2 =>
      have q := pus_dp k l _ h2 (by simpa [D.pu] using f)
      simp only [toPy]
      refine ⟨.lst h1.sq q.1, by simp only [PyData.canLay0]; exact q.2.1, ?_⟩
      simp only [PyData.depth]
      exact Nat.succ_le_succ q.2.2
  | _, .ref n, _, _, f => by simp [D.pu] at f
  | _, .exc n, _, _, f => by simp [D.pu] at f
theorem pus_dp : ∀ (k : Nat) (l : List D) (vs : List V), Reps L ρ st H vs l → l.all (D.pu k) = true → DpAll L.K H vs (toPys l) ∧ PyData.canLayAll0 (toPys l) = true ∧ PyData.depthAll (toPys l) ≤ k
  | k, [], _, h, _ => by cases h; simp only [toPys]; exact ⟨.nil, rfl, Nat.zero_le _⟩
  | k, d :: ds, _, h, f => by
    cases h with
    | cons h1 h2 =>
      rw [List.all_cons, Bool.and_eq_true] at f
      have q1 := pu_dp k d _ h1 f.1
      have q2 := pus_dp k ds _ h2 f.2
      simp only [toPys]
      refine ⟨.cons q1.1 q2.1, by simp only [PyData.canLayAll0, q1.2.1, q2.2.1, Bool.and_self], ?_⟩
      simp only [PyData.depthAll]
      exact Nat.max_le.mpr ⟨q1.2.2, q2.2.2⟩
end
mutual
theorem pu_eqv : ∀ (k : Nat) (d e : D), d.pu k = true → e.pu k = true → PyData.eqv (toPy d) (toPy e) = d.eqv e
  | _, .non, e, _, f => by cases e <;> simp [toPy, PyData.eqv, D.eqv, D.pu] at f ⊢
  | _, .bl _, e, _, f => by cases e <;> simp [toPy, PyData.eqv, D.eqv, D.pu, b2i] at f ⊢
  | _, .int _, e, _, f => by cases e <;> simp [toPy, PyData.eqv, D.eqv, D.pu, b2i] at f ⊢
  | _, .str x, e, _, f => by
    cases e with
    | str y =>
      simp only [toPy, PyData.eqv, D.eqv]
      exact tl_eq
    | _ => simp [toPy, PyData.eqv, D.eqv, D.pu] at f ⊢
  | 0, .tup l, _, f, _ => by simp [D.pu] at f
  | 0, .lst l, _, f, _ => by simp [D.pu] at f
  | k + 1, .tup l, e, f, g => by
    cases e with
    | tup m =>
      simp only [toPy, PyData.eqv, D.eqv]
      exact pu_eqvs k l m (by simpa [D.pu] using f) (by simpa [D.pu] using g)
    | _ => simp [toPy, PyData.eqv, D.eqv, D.pu] at g ⊢
  | k + 1, .lst l, e, f, g => by
    cases e with
    | lst m =>
      simp only [toPy, PyData.eqv, D.eqv]
      exact pu_eqvs k l m (by simpa [D.pu] using f) (by simpa [D.pu] using g)
    | _ => simp [toPy, PyData.eqv, D.eqv, D.pu] at g ⊢
  | _, .ref n, _, f, _ => by simp [D.pu] at f
  | _, .exc n, _, f, _ => by simp [D.pu] at f
theorem pu_eqvs : ∀ (k : Nat) (l m : List D), l.all (D.pu k) = true → m.all (D.pu k) = true → PyData.eqvAll (toPys l) (toPys m) = D.eqvL l m
  | _, [], [], _, _ => by simp [toPys, PyData.eqvAll, D.eqvL]
  | _, [], _ :: _, _, _ => by simp [toPys, PyData.eqvAll, D.eqvL]
  | _, _ :: _, [], _, _ => by simp [toPys, PyData.eqvAll, D.eqvL]
  | k, d :: l, e :: m, f, g => by
    rw [List.all_cons, Bool.and_eq_true] at f g
    simp only [toPys, PyData.eqvAll, D.eqvL]
    rw [pu_eqv k d e f.1 g.1, pu_eqvs k l m f.2 g.2]
end
/-- the value of asD -/
theorem asD_rep (R : Rel L ρ st H) {v : V} {d : D} (h : Rep L ρ st H v d) : (∀ n, d ≠ .ref n) ∧ asD st d = d ∨ (∃ n a l xs, d = .ref n ∧ asD st d = .lst l ∧ v = .ref a ∧ H a = some (.lst xs) ∧ Reps L ρ st H xs l) ∨ (∃ n, asD st d = .ref n) := by
  cases h with
  | @ref a n h1 =>
    simp only [asD]
    cases hs : st[n]? with
    | none => exact .inr (.inr ⟨n, rfl⟩)
    | some o =>
      have q := R.ob n a o h1 hs
      cases o with
      | ml l =>
        obtain ⟨xs, q1, q2⟩ := q
        exact .inr (.inl ⟨n, a, l, xs, rfl, rfl, rfl, q1, q2⟩)
      | fz l =>
        obtain ⟨xs, q1, q2⟩ := q
        exact .inr (.inl ⟨n, a, l, xs, rfl, rfl, rfl, q1, q2⟩)
      | md kvs => exact .inr (.inr ⟨n, rfl⟩)
      | ins c fs => exact .inr (.inr ⟨n, rfl⟩)
  | _ => exact .inl ⟨fun _ => D.noConfusion, rfl⟩
theorem asD_dp (R : Rel L ρ st H) {v : V} {d : D} (h : Rep L ρ st H v d) {k : Nat} (f : (asD st d).pu (k + 1) = true) : Dp L.K H v (toPy (asD st d)) ∧ (toPy (asD st d)).canLay0 = true ∧ (toPy (asD st d)).depth ≤ k + 1 := by
  rcases asD_rep R h with ⟨_, e⟩ | ⟨n, a, l, xs, rfl, e, rfl, q1, q2⟩ | ⟨n, e⟩
  · rw [e] at f ⊢
    exact pu_dp _ _ _ h f
  · rw [e] at f ⊢
    have q := pus_dp k l xs q2 (by simpa [D.pu] using f)
    simp only [toPy]
    refine ⟨.lst (SqL.of q1) q.1, by simp only [PyData.canLay0]; exact q.2.1, ?_⟩
    simp only [PyData.depth]
    exact Nat.succ_le_succ q.2.2
  · rw [e] at f
    simp [D.pu] at f
theorem asD_flat (R : Rel L ρ st H) {v : V} {d : D} (h : Rep L ρ st H v d) (f : (asD st d).flat = true) : asD st d = d := by
  rcases asD_rep R h with ⟨_, e⟩ | ⟨n, a, l, xs, rfl, e, rfl, q1, q2⟩ | ⟨n, e⟩
  · exact e
  · rw [e] at f; simp [D.flat] at f
  · rw [e] at f; simp [D.flat] at f
theorem shaped_of {d : PyData} (h : d.canLay0 = true) (h2 : d.depth ≤ 64) : SeqAt.shaped d = true := by
  unfold SeqAt.shaped
  rw [h, decide_eq_true h2]
  rfl
end

section
variable {X : Cx} {L : Lk}
/-! ### arithmetic -/
theorem op_addV (hK : X.K = L.K) : OpR X (binaryOp .Add) (VOp L oAdd) := by
  refine OpR.imp (OpR.or op_add (OpR.or op_add_str op_catT)) ?_
  rintro x y H Q ⟨ρ, st, a, b, d, R, ra, rb, e, q⟩
  unfold oAdd at e
  split at e
  · cases ra; cases rb
    cases e
    exact .inl ⟨_, _, rfl, rfl, q ρ H _ Ext.refl R (.int _)⟩
  · obtain ⟨x, rfl, rfl⟩ := rep_str ra
    obtain ⟨y, rfl, rfl⟩ := rep_str rb
    split at e
    · rename_i hl
      cases e
      refine .inr (.inl ⟨_, _, rfl, rfl, by rw [len_tl, len_tl, ← LN_eq]; exact hl, q ρ H _ Ext.refl R (rep_mk _ (tl_append x y))⟩)
    · cases e
  · obtain ⟨a1, xs, rfl, t1, r1⟩ := rep_tup ra
    obtain ⟨b1, ys, rfl, t2, r2⟩ := rep_tup rb
    split at e
    · rename_i a' b' hl
      cases e
      refine .inr (.inr ⟨a1, b1, xs, ys, rfl, rfl, by rw [hK]; exact t1.sq, by rw [hK]; exact t2.sq, ?_, by rw [r1.length, r2.length, ← LN_eq]; exact hl.1, fun ey => ?_, fun ey p hp => ?_⟩)
      · intro ex
        subst ex
        cases r1
        simp at hl
      · subst ey
        cases r2
        rw [List.append_nil] at q
        exact q ρ H _ Ext.refl R ra
      · exact q ρ _ _ (ext_new R hp) (rel_new R hp) (.tup (.inl ⟨.inl upd_same, imm_new R hp⟩) (Reps.ext (ext_new R hp) _ _ (r1.append r2)))
    · cases e
  · cases e
theorem op_subV : OpR X (binaryOp .Sub) (VOp L oSub) := by
  refine OpR.imp op_sub ?_
  rintro x y H Q ⟨ρ, st, a, b, d, R, ra, rb, e, q⟩
  unfold oSub at e
  split at e
  · cases ra; cases rb
    cases e
    exact ⟨_, _, rfl, rfl, q ρ H _ Ext.refl R (.int _)⟩
  · cases e
theorem op_mulV : OpR X (binaryOp .Mult) (VOp L oMul) := by
  refine OpR.imp op_mul ?_
  rintro x y H Q ⟨ρ, st, a, b, d, R, ra, rb, e, q⟩
  unfold oMul at e
  split at e
  · split at e
    · rename_i hc
      cases ra; cases rb
      cases e
      exact ⟨_, _, rfl, rfl, hc, q ρ H _ Ext.refl R (.int _)⟩
    · cases e
  · cases e
theorem op_divV : OpR X (binaryOp .FloorDiv) (VOp L oDiv) := by
  refine OpR.imp op_fdiv ?_
  rintro x y H Q ⟨ρ, st, a, b, d, R, ra, rb, e, q⟩
  unfold oDiv at e
  split at e
  · split at e
    · rename_i hc
      cases ra; cases rb
      cases e
      exact ⟨_, _, rfl, rfl, hc, q ρ H _ Ext.refl R (.int _)⟩
    · cases e
  · cases e
theorem op_modV : OpR X (binaryOp .Mod) (VOp L oMod) := by
  refine OpR.imp op_mod ?_
  rintro x y H Q ⟨ρ, st, a, b, d, R, ra, rb, e, q⟩
  unfold oMod at e
  split at e
  · split at e
    · rename_i hc
      cases ra; cases rb
      cases e
      exact ⟨_, _, rfl, rfl, hc, q ρ H _ Ext.refl R (.int _)⟩
    · cases e
  · cases e
theorem op_powV : OpR X (binaryOp .Pow) (VOp L oPow) := by
  refine OpR.imp op_pow ?_
  rintro x y H Q ⟨ρ, st, a, b, d, R, ra, rb, e, q⟩
  unfold oPow at e
  split at e
  · split at e
    · rename_i hc
      cases ra; cases rb
      cases e
      exact ⟨_, _, rfl, rfl, hc, q ρ H _ Ext.refl R (.int _)⟩
    · cases e
  · cases e
theorem de_neg {a : Expr} {f : EM} {W : WX} {pos : Pos} (ha : PE X a (wE L W f)) : PE X (.UnaryOp .USub a pos) (wE L W (xNeg f)) := by
  refine PE.imp (pe_un un_neg ha) ?_
  rintro σ H Q ⟨ρ, st, env, R, N, q⟩
  refine wE.mono ?_ (wE_bind R N q)
  rintro x H1 ⟨ρ1, st1, d1, e1, R1, N1, r1, q1⟩
  cases r1 with
  | int i => exact ⟨_, rfl, q1.here R1 _ (.int _)⟩
  | _ => exact q1.elim
/-! ### comparisons -/
theorem eqD_cases {x y : D} {k : Bool} (e : eqD x y = some k) : (∃ a b, x = .str a ∧ y = .str b ∧ k = (a == b)) ∨ (x.pu 20 = true ∧ y.pu 20 = true ∧ k = x.eqv y) := by
  unfold eqD at e
  split at e
  · simp only [Option.some.injEq] at e
    exact .inl ⟨_, _, rfl, rfl, e.symm⟩
  · split at e
    · rename_i h
      rw [Bool.and_eq_true] at h
      simp only [Option.some.injEq] at e
      exact .inr ⟨h.1, h.2, e.symm⟩
    · cases e
theorem asD_str {ρ : Ly} {st : St} {H : Hp} (R : Rel L ρ st H) {v : V} {d : D} {a : List Nat} (h : Rep L ρ st H v d) (e : asD st d = .str a) : ∃ x, v = .str x ∧ tl x = a := by
  rcases asD_rep R h with ⟨_, e'⟩ | ⟨n, a', l, xs, rfl, e', rfl, q1, q2⟩ | ⟨n, e'⟩
  · rw [e'] at e
    subst e
    exact rep_str h
  · rw [e'] at e; cases e
  · rw [e'] at e; cases e
theorem op_eqV (hK : X.K = L.K) (hu : X.A.units + 64 < cLine) : OpR X (compareOp .Eq) (VOp L oEq) := by
  refine OpR.imp (OpR.or op_eq (op_eqD hu)) ?_
  rintro x y H Q ⟨ρ, st, a, b, d, R, ra, rb, e, q⟩
  unfold oEq at e
  cases ek : eqD (asD st a) (asD st b) with
  | none => rw [ek] at e; cases e
  | some k =>
    rw [ek] at e
    cases e
    rcases eqD_cases ek with ⟨s, t, es, et, rfl⟩ | ⟨p1, p2, rfl⟩
    · obtain ⟨x', rfl, rfl⟩ := asD_str R ra es
      obtain ⟨y', rfl, rfl⟩ := asD_str R rb et
      refine .inl ⟨rfl, ?_⟩
      rw [dec_str, tl_eq]
      exact q ρ H _ Ext.refl R (.bl _)
    · have z1 := asD_dp R ra p1
      have z2 := asD_dp R rb p2
      refine .inr ⟨_, _, by rw [hK]; exact z1.1, by rw [hK]; exact z2.1, shaped_of z1.2.1 (Nat.le_trans z1.2.2 (by decide)), shaped_of z2.2.1 (Nat.le_trans z2.2.2 (by decide)), ?_⟩
      rw [pu_eqv 20 _ _ p1 p2]
      exact q ρ H _ Ext.refl R (.bl _)
theorem op_neV (hK : X.K = L.K) (hu : X.A.units + 64 < cLine) : OpR X (compareOp .NotEq) (VOp L oNe) := by
  refine OpR.imp (OpR.or op_ne (op_neD hu)) ?_
  rintro x y H Q ⟨ρ, st, a, b, d, R, ra, rb, e, q⟩
  unfold oNe at e
  cases ek : eqD (asD st a) (asD st b) with
  | none => rw [ek] at e; cases e
  | some k =>
    rw [ek] at e
    cases e
    rcases eqD_cases ek with ⟨s, t, es, et, rfl⟩ | ⟨p1, p2, rfl⟩
    · obtain ⟨x', rfl, rfl⟩ := asD_str R ra es
      obtain ⟨y', rfl, rfl⟩ := asD_str R rb et
      refine .inl ⟨rfl, ?_⟩
      rw [dec_str, tl_eq]
      exact q ρ H _ Ext.refl R (.bl _)
    · have z1 := asD_dp R ra p1
      have z2 := asD_dp R rb p2
      refine .inr ⟨_, _, by rw [hK]; exact z1.1, by rw [hK]; exact z2.1, shaped_of z1.2.1 (Nat.le_trans z1.2.2 (by decide)), shaped_of z2.2.1 (Nat.le_trans z2.2.2 (by decide)), ?_⟩
      rw [pu_eqv 20 _ _ p1 p2]
      exact q ρ H _ Ext.refl R (.bl _)
theorem op_gt_str' : OpR X (compareOp .Gt) (fun x y H Q => ∃ i j, x = .str i ∧ y = .str j ∧ Q (.bl (decide (tl j < tl i))) H) := by
  rintro pins s σ H x y v u Q I r1 r2 ⟨i, j, rfl, rfl, q⟩
  obtain ⟨t, rfl⟩ := r1
  obtain ⟨t', rfl⟩ := r2
  exact PySem.P.gt_str ⟨.bl _, H, I, rfl, q⟩
theorem op_ltV : OpR X (compareOp .Lt) (VOp L oLt) := by
  refine OpR.imp (OpR.or op_lt op_lt_str) ?_
  rintro x y H Q ⟨ρ, st, a, b, d, R, ra, rb, e, q⟩
  unfold oLt at e
  split at e
  · cases ra; cases rb; cases e
    exact .inl ⟨_, _, rfl, rfl, q ρ H _ Ext.refl R (.bl _)⟩
  · obtain ⟨x', rfl, rfl⟩ := rep_str ra
    obtain ⟨y', rfl, rfl⟩ := rep_str rb
    cases e
    exact .inr ⟨_, _, rfl, rfl, q ρ H _ Ext.refl R (.bl _)⟩
  · cases e
theorem op_gtV : OpR X (compareOp .Gt) (VOp L oGt) := by
  refine OpR.imp (OpR.or op_gt op_gt_str') ?_
  rintro x y H Q ⟨ρ, st, a, b, d, R, ra, rb, e, q⟩
  unfold oGt at e
  split at e
  · cases ra; cases rb; cases e
    exact .inl ⟨_, _, rfl, rfl, q ρ H _ Ext.refl R (.bl _)⟩
  · obtain ⟨x', rfl, rfl⟩ := rep_str ra
    obtain ⟨y', rfl, rfl⟩ := rep_str rb
    cases e
    exact .inr ⟨_, _, rfl, rfl, q ρ H _ Ext.refl R (.bl _)⟩
  · cases e
theorem op_leV : OpR X (compareOp .LtE) (VOp L oLe) := by
  refine OpR.imp op_le ?_
  rintro x y H Q ⟨ρ, st, a, b, d, R, ra, rb, e, q⟩
  unfold oLe at e
  split at e
  · cases ra; cases rb; cases e
    exact ⟨_, _, rfl, rfl, q ρ H _ Ext.refl R (.bl _)⟩
  · cases e
theorem op_geV : OpR X (compareOp .GtE) (VOp L oGe) := by
  refine OpR.imp op_ge ?_
  rintro x y H Q ⟨ρ, st, a, b, d, R, ra, rb, e, q⟩
  unfold oGe at e
  split at e
  · cases ra; cases rb; cases e
    exact ⟨_, _, rfl, rfl, q ρ H _ Ext.refl R (.bl _)⟩
  · cases e
/-! ### in, is -/
theorem inStr_rep {c s : List Nat} {k : Bool} {x y : Str} (e : inStr c s = some k) (hx : tl x = c) (hy : tl y = s) : (!(Builtin.Str.occurrences y x 0 y.length 1).isEmpty) = k := by
  unfold inStr at e
  split at e
  · rename_i a
    cases e
    have ex : x = ⟨#[a]⟩ := ext_tl hx
    subst ex hy
    rw [StrLaws.found_one]
    simp
  · cases e
theorem oIn_bl {x y : D} {st : St} {d : D} (e : oIn x y st = some d) : ∃ k, d = .bl k := by
  unfold oIn at e
  split at e
  · split at e
    · obtain ⟨k, _, rfl⟩ := Option.map_eq_some_iff.mp e; exact ⟨k, rfl⟩
    · cases e
  · obtain ⟨k, _, rfl⟩ := Option.map_eq_some_iff.mp e; exact ⟨k, rfl⟩
  · split at e
    · obtain ⟨k, _, rfl⟩ := Option.map_eq_some_iff.mp e; exact ⟨k, rfl⟩
    · cases e
theorem any_pus {a : D} (ha : a.pu 20 = true) : ∀ l : List D, l.all (D.pu 20) = true → ((toPys l).any fun z => PyData.eqv z (toPy a)) = l.any fun y => y.eqv a := by
  intro l
  induction l with
  | nil => intro _; rfl
  | cons d ds ih =>
    intro f
    rw [List.all_cons, Bool.and_eq_true] at f
    simp only [toPys, List.any_cons, ih f.2, pu_eqv 20 d a f.1 ha]
def rInDT (K : PySem.W.Frag) : R2 := fun x y H Q => ∃ d ds, Dp K H x d ∧ Dp K H y (.tuple ds) ∧ SeqAt.shaped d = true ∧ SeqAt.shaped (.list ds) = true ∧ Q (.bl (ds.any fun z => PyData.eqv z d)) H
def rNotInDT (K : PySem.W.Frag) : R2 := fun x y H Q => ∃ d ds, Dp K H x d ∧ Dp K H y (.tuple ds) ∧ SeqAt.shaped d = true ∧ SeqAt.shaped (.list ds) = true ∧ Q (.bl (!ds.any fun z => PyData.eqv z d)) H
theorem op_inDT (hu : X.A.units + 65 < cLine) : OpR X (compareOp .In) (rInDT X.K) := by
  intro pins s σ H x y v u Q I rx ry h
  obtain ⟨d, ds, hd, he, sd, se, q⟩ := h
  obtain ⟨as, r1⟩ := Dp.reads I d x v hd rx
  obtain ⟨bs, r2⟩ := Dp.reads I (.tuple ds) y u he ry
  exact SeqAt.in_tuple_reads r2 r1 (SeqAt.canLay_of_shaped se) (SeqAt.canLay_of_shaped sd) (PyProof.Rows.room_in_shaped sd hu) ⟨.bl _, H, I, rfl, q⟩
theorem op_notInDT (hu : X.A.units + 65 < cLine) : OpR X (compareOp .NotIn) (rNotInDT X.K) := by
  intro pins s σ H x y v u Q I rx ry h
  obtain ⟨d, ds, hd, he, sd, se, q⟩ := h
  obtain ⟨as, r1⟩ := Dp.reads I d x v hd rx
  obtain ⟨bs, r2⟩ := Dp.reads I (.tuple ds) y u he ry
  exact SeqAt.notIn_tuple_reads r2 r1 (SeqAt.canLay_of_shaped se) (SeqAt.canLay_of_shaped sd) (PyProof.Rows.room_in_shaped sd hu) ⟨.bl _, H, I, rfl, q⟩
/-- the three kinds of «in» -/
theorem oIn_cases {ρ : Ly} {st : St} {H : Hp} {x y : V} {a b : D} {k : Bool} (R : Rel L ρ st H) (ra : Rep L ρ st H x a) (rb : Rep L ρ st H y b) (e : oIn a b st = some (.bl k)) :
    (∃ i j, x = .str i ∧ y = .str j ∧ (!(Builtin.Str.occurrences j i 0 j.length 1).isEmpty) = k) ∨
    (∃ p xs, y = .ref p ∧ (SqL L.K H p xs ∨ SqT L.K H p xs) ∧ flatV x = true ∧ xs.all flatV = true ∧ inV x xs = k) ∨
    (∃ d ds, Dp L.K H x d ∧ (Dp L.K H y (.list ds) ∨ Dp L.K H y (.tuple ds)) ∧ SeqAt.shaped d = true ∧ SeqAt.shaped (.list ds) = true ∧ (ds.any fun z => PyData.eqv z d) = k) := by
  unfold oIn at e
  split at e
  · split at e
    · obtain ⟨x', rfl, hx⟩ := rep_str ra
      obtain ⟨y', rfl, hy⟩ := rep_str rb
      obtain ⟨k', hk, ek⟩ := Option.map_eq_some_iff.mp e
      cases ek
      exact .inl ⟨x', y', rfl, rfl, inStr_rep hk hx hy⟩
    · cases e
  · obtain ⟨p, xs, rfl, t1, r1⟩ := rep_tup rb
    obtain ⟨k', hk, ek⟩ := Option.map_eq_some_iff.mp e
    cases ek
    unfold inT at hk
    split at hk
    · rename_i hf
      rw [Bool.and_eq_true] at hf
      cases hk
      exact .inr (.inl ⟨p, xs, rfl, .inr t1.sq, flat_rep ra hf.1, flats_rep r1 hf.2, any_flat ra hf.1 r1 hf.2⟩)
    · split at hk
      · rename_i hf
        rw [Bool.and_eq_true] at hf
        cases hk
        have z1 := pu_dp 20 _ _ ra hf.1
        have z2 := pus_dp 20 _ xs r1 hf.2
        refine .inr (.inr ⟨_, _, z1.1, .inr (.tup t1.sq z2.1), shaped_of z1.2.1 (Nat.le_trans z1.2.2 (by decide)), shaped_of (by simp only [PyData.canLay0]; exact z2.2.1) (by simp only [PyData.depth]; have := z2.2.2; omega), ?_⟩)
        exact any_pus hf.1 _ hf.2
      · cases hk
  · split at e
    · rename_i l hl
      obtain ⟨p, xs, rfl, t1, r1, _⟩ := asL_rep R rb hl
      obtain ⟨k', hk, ek⟩ := Option.map_eq_some_iff.mp e
      cases ek
      unfold inL at hk
      split at hk
      · rename_i hf
        rw [Bool.and_eq_true] at hf
        cases hk
        exact .inr (.inl ⟨p, xs, rfl, .inl t1, flat_rep ra hf.1, flats_rep r1 hf.2, any_flat ra hf.1 r1 hf.2⟩)
      · split at hk
        · rename_i hf
          rw [Bool.and_eq_true] at hf
          cases hk
          have z1 := pu_dp 20 _ _ ra hf.1
          have z2 := pus_dp 20 l xs r1 hf.2
          refine .inr (.inr ⟨_, _, z1.1, .inl (.lst t1 z2.1), shaped_of z1.2.1 (Nat.le_trans z1.2.2 (by decide)), shaped_of (by simp only [PyData.canLay0]; exact z2.2.1) (by simp only [PyData.depth]; have := z2.2.2; omega), ?_⟩)
          exact any_pus hf.1 l hf.2
        · cases hk
    · cases e
theorem op_inV (hK : X.K = L.K) (hu : X.A.units + 65 < cLine) : OpR X (compareOp .In) (VOp L oIn) := by
  refine OpR.imp (OpR.or op_in_str (OpR.or op_in_seq (OpR.or (op_inD hu) (op_inDT hu)))) ?_
  rintro x y H Q ⟨ρ, st, a, b, d, R, ra, rb, e, q⟩
  obtain ⟨k, rfl⟩ := oIn_bl e
  have z := q ρ H _ Ext.refl R (.bl k)
  rcases oIn_cases R ra rb e with ⟨i, j, rfl, rfl, ek⟩ | ⟨p, xs, rfl, h1, h2, h3, ek⟩ | ⟨d, ds, h1, h2 | h2, h3, h4, ek⟩
  · exact .inl ⟨i, j, rfl, rfl, by rw [ek]; exact z⟩
  · exact .inr (.inl ⟨p, xs, rfl, by rw [hK]; exact h1, h2, h3, by rw [ek]; exact z⟩)
  · exact .inr (.inr (.inl ⟨d, ds, by rw [hK]; exact h1, by rw [hK]; exact h2, h3, h4, by rw [ek]; exact z⟩))
  · exact .inr (.inr (.inr ⟨d, ds, by rw [hK]; exact h1, by rw [hK]; exact h2, h3, h4, by rw [ek]; exact z⟩))
theorem op_notInV (hK : X.K = L.K) (hu : X.A.units + 65 < cLine) : OpR X (compareOp .NotIn) (VOp L oNotIn) := by
  refine OpR.imp (OpR.or op_notin_str (OpR.or op_notIn_seq (OpR.or (op_notInD hu) (op_notInDT hu)))) ?_
  rintro x y H Q ⟨ρ, st, a, b, d, R, ra, rb, e, q⟩
  unfold oNotIn at e
  split at e
  · rename_i k hk
    cases e
    have z := q ρ H _ Ext.refl R (.bl _)
    rcases oIn_cases R ra rb hk with ⟨i, j, rfl, rfl, ek⟩ | ⟨p, xs, rfl, h1, h2, h3, ek⟩ | ⟨d, ds, h1, h2 | h2, h3, h4, ek⟩
    · exact .inl ⟨i, j, rfl, rfl, by rw [ek]; exact z⟩
    · exact .inr (.inl ⟨p, xs, rfl, by rw [hK]; exact h1, h2, h3, by rw [if_pos rfl, ek]; exact z⟩)
    · exact .inr (.inr (.inl ⟨d, ds, by rw [hK]; exact h1, by rw [hK]; exact h2, h3, h4, by rw [ek]; exact z⟩))
    · exact .inr (.inr (.inr ⟨d, ds, by rw [hK]; exact h1, by rw [hK]; exact h2, h3, h4, by rw [ek]; exact z⟩))
  · cases e
theorem non_dec {ρ : Ly} {st : St} {H : Hp} {x : V} {a : D} (ra : Rep L ρ st H x a) : decide (x = V.non) = (match a with | .non => true | _ => false) := by
  cases ra <;> rfl
/-- x is True, x is False -/
inductive IsB (b : Bool) : V → Bool → Prop
  | non : IsB b .non false
  | bl (a : Bool) : IsB b (.bl a) (a == b)
  | int (i : Int) : IsB b (.int i) false
  | str (s : Str) : IsB b (.str s) false
  | ref (a : Addr) : IsB b (.ref a) false
theorem isB_rep {ρ : Ly} {st : St} {H : Hp} {x : V} {a : D} {b : Bool} (ra : Rep L ρ st H x a) : IsB b x (match a with | .bl a => a == b | _ => false) := by
  cases ra <;> constructor
theorem op_isB : OpR X (compareOp .Is) (fun x y H Q => ∃ b r, y = .bl b ∧ IsB b x r ∧ Q (.bl r) H) := by
  rintro pins s σ H x y v u Q I rx ry ⟨b, r, rfl, h, q⟩
  cases ry
  cases h with
  | non => cases rx; exact wpAny_is_plain rfl (fin_bl I q rfl)
  | bl a => cases rx; exact wpAny_is_plain rfl (fin_bl I q (by cases a <;> cases b <;> rfl))
  | int i => obtain ⟨t, rfl⟩ := rx; exact wpAny_is_plain rfl (fin_bl I q rfl)
  | str i => obtain ⟨t, rfl⟩ := rx; exact wpAny_is_plain rfl (fin_bl I q rfl)
  | ref a => cases rx; exact wpAny_is_plain rfl (fin_bl I q rfl)
theorem op_isNotB : OpR X (compareOp .IsNot) (fun x y H Q => ∃ b r, y = .bl b ∧ IsB b x r ∧ Q (.bl (!r)) H) := by
  rintro pins s σ H x y v u Q I rx ry ⟨b, r, rfl, h, q⟩
  cases ry
  cases h with
  | non => cases rx; exact wpAny_isNot_plain rfl (fin_bl I q rfl)
  | bl a => cases rx; exact wpAny_isNot_plain rfl (fin_bl I q (by cases a <;> cases b <;> rfl))
  | int i => obtain ⟨t, rfl⟩ := rx; exact wpAny_isNot_plain rfl (fin_bl I q rfl)
  | str i => obtain ⟨t, rfl⟩ := rx; exact wpAny_isNot_plain rfl (fin_bl I q rfl)
  | ref a => cases rx; exact wpAny_isNot_plain rfl (fin_bl I q rfl)
theorem op_isV : OpR X (compareOp .Is) (VOp L oIs) := by
  refine OpR.imp (OpR.or op_isN op_isB) ?_
  rintro x y H Q ⟨ρ, st, a, b, d, R, ra, rb, e, q⟩
  unfold oIs at e
  split at e
  · cases rb
    refine .inl ⟨rfl, ?_⟩
    rw [non_dec ra]
    split at e
    · cases e; exact q ρ H _ Ext.refl R (.bl _)
    · rename_i h
      cases e
      cases ra <;> first | exact q ρ H _ Ext.refl R (.bl _) | exact absurd rfl h
  · cases rb
    refine .inr ⟨_, _, rfl, isB_rep ra, ?_⟩
    split at e
    · cases e; exact q ρ H _ Ext.refl R (.bl _)
    · rename_i h
      cases e
      cases ra <;> first | exact q ρ H _ Ext.refl R (.bl _) | exact absurd rfl (h _)
  · cases e
theorem op_isNotV : OpR X (compareOp .IsNot) (VOp L oIsNot) := by
  refine OpR.imp (OpR.or op_notN op_isNotB) ?_
  rintro x y H Q ⟨ρ, st, a, b, d, R, ra, rb, e, q⟩
  unfold oIsNot at e
  split at e
  · cases rb
    refine .inl ⟨rfl, ?_⟩
    rw [non_dec ra]
    split at e
    · cases e; exact q ρ H _ Ext.refl R (.bl _)
    · rename_i h
      cases e
      cases ra <;> first | exact q ρ H _ Ext.refl R (.bl _) | exact absurd rfl h
  · cases rb
    refine .inr ⟨_, _, rfl, isB_rep ra, ?_⟩
    split at e
    · cases e; exact q ρ H _ Ext.refl R (.bl _)
    · rename_i h
      cases e
      cases ra <;> first | exact q ρ H _ Ext.refl R (.bl _) | exact absurd rfl (h _)
  · cases e
/-! ### an item -/
theorem ixN_same (n : Nat) (i : Int) : TH.ixN n i = L2.ixN n i := rfl
theorem atI_of {α : Type} {l : List α} {i : Int} {v : α} (e : ((TH.ixN l.length i).bind fun j => l[j]?) = some v) : atI l i = some v := by
  unfold atI
  rw [← ixN_same]
  exact e
theorem op_ixV (hK : X.K = L.K) : IxR X (VOp L oIx) := by
  refine IxR.imp ix_seq ?_
  rintro x y H Q ⟨ρ, st, a, b, d, R, ra, rb, e, q⟩
  have bnd : ∀ {l : List D} {xs : List V} {i : Int}, Reps L ρ st H xs l → ((TH.ixN l.length i).bind fun j => l[j]?) = some d → ∃ v, atI xs i = some v ∧ Rep L ρ st H v d := fun {l xs i} r e => by
    cases hj : TH.ixN l.length i with
    | none => rw [hj] at e; cases e
    | some j =>
      rw [hj] at e
      obtain ⟨v, h1, h2⟩ := r.got e
      refine ⟨v, ?_, h2⟩
      unfold atI
      rw [← ixN_same, r.length, hj]
      exact h1
  unfold oIx at e
  split at e
  · cases rb
    split at e
    · split at e
      · rename_i s hl
        obtain ⟨x', rfl, rfl⟩ := rep_str ra
        cases hj : TH.ixN (tl x').length _ with
        | none => rw [hj] at e; cases e
        | some j =>
          rw [hj] at e
          simp only [Option.bind_some] at e
          obtain ⟨c, hc, ec⟩ := Option.map_eq_some_iff.mp e
          subst ec
          refine .inr (.inr ⟨x', _, c, rfl, rfl, by rw [len_tl, ← LN_eq]; exact hl, ?_, q ρ H _ Ext.refl R (rep_mk _ rfl)⟩)
          unfold atI
          rw [← ixN_same, hj]
          exact hc
      · cases e
    · obtain ⟨p, xs, rfl, t1, r1⟩ := rep_tup ra
      obtain ⟨v, h1, h2⟩ := bnd r1 e
      exact .inr (.inl ⟨p, xs, _, v, rfl, rfl, by rw [hK]; exact t1.sq, h1, q ρ H _ Ext.refl R h2⟩)
    · split at e
      · rename_i l hl
        obtain ⟨p, xs, rfl, t1, r1, _⟩ := asL_rep R ra hl
        obtain ⟨v, h1, h2⟩ := bnd r1 e
        exact .inl ⟨p, xs, _, v, rfl, rfl, by rw [hK]; exact t1, h1, q ρ H _ Ext.refl R h2⟩
      · cases e
  · cases e
end
end TH
end
section
set_option Elab.async false
set_option linter.all false
set_option autoImplicit false
set_option maxRecDepth 100000
/-! TH4: calls, methods, what is walked, comprehensions. -/
namespace TH
open PySem L2 TL

/-- a def's promise: what the evaluation says -/
def spC (L : Lk) (c : List D → St → RE) : Sp := fun vs H Q E => ∃ ρ st ds, Rel L ρ st H ∧ Reps L ρ st H vs ds ∧ PostR L (fun cls d _ H => E cls d H) [] (fE L Q) ρ st H (c ds st)
section
variable {X : Cx} {L : Lk} {W : WX} {a b e o : Expr} {es : List Expr} {f g : EM} {fa : AM} {pos p apos : Pos}
theorem PostR.wish {α : Type} {W' : WX} {σ σ' : Sl} {F : Fn α} {ρ : Ly} {st : St} {H : Hp} {r : RR α} (h : PostR L W σ F ρ st H r) (i : ∀ c H, W c none σ H → W' c none σ' H) : PostR L W' σ' F ρ st H r := by
  cases r with
  | ok d st' => exact h
  | exn c st' => exact fun ρ' H' e R => i _ _ (h ρ' H' e R)
  | stuck => exact h
/-- f(..), f a def of the text -/
theorem de_call {k fi : Nat} {c : Calls} {f : Addr} {fd : FuncData} {ps : List Str} {x : Str} (tk : Takes X W) (F : FnOk X.prog X.w X.K X.mg X.base (L2.CX X.prog X.w) k f fd ps (spC L (c fi))) (hr : Room k X.A) (hm : X.mg x = some (.ref f)) (hk : PySem.W.keepIn X.K (.ref f) = true)
    (hb : Binds X.K fd ps []) (ha : PA X (e :: es) (wA L W fa)) (hg : Gl X x := by rfl) (hdb : (x == ("__debug__" : Str)) = false := by decide) (he : starEach (e :: es) X.env = (false, eval e X.env) :: starEach es X.env := by rfl) (hpl : (backTo pos (starEach es X.env)).any (·.1) = false := by rfl) :
    PE X (.Call (.Name x p) (e :: es) [] pos) (wE L W (xCall c fi fa)) := by
  refine PE.imp (pe_callS F hr hg hm hk hb (fun σ => passAt tk σ) ha hdb he hpl) ?_
  rintro σ H Q ⟨ρ, st, env, R, N, q⟩
  refine wA.mono ?_ (wA_bind R N q)
  rintro vs H1 ⟨ρ1, st1, ds, e1, R1, N1, r1, q1⟩
  exact ⟨ρ1, st1, ds, R1, r1, q1.wish fun _ _ z => z⟩
theorem de_call0 {k fi : Nat} {c : Calls} {f : Addr} {fd : FuncData} {ps : List Str} {x : Str} (tk : Takes X W) (F : FnOk X.prog X.w X.K X.mg X.base (L2.CX X.prog X.w) k f fd ps (spC L (c fi))) (hr : Room k X.A) (hm : X.mg x = some (.ref f)) (hk : PySem.W.keepIn X.K (.ref f) = true)
    (hb : Binds X.K fd ps []) (hg : Gl X x := by rfl) (hdb : (x == ("__debug__" : Str)) = false := by decide) : PE X (.Call (.Name x p) [] [] pos) (wE L W (xCall c fi aNil)) := by
  refine ⟨fun pins s σ H Q I q => ?_⟩
  obtain ⟨ρ, st, env, R, N, q⟩ := q
  refine wpAny_Call_Name_kw (ld_glob I hg hm ?_ hdb)
  refine PySem.W.callWith_K0 I.kIn hk (run_fnS (us := []) (vs := []) (E := WE W) F hr hb (passAt tk σ) I .nil ⟨ρ, st, [], R, .nil, ?_⟩)
  exact PostR.wish (W := W) (σ := σ) q fun _ _ z => z
/-- f(..), f a built-in function of values -/
theorem de_blt {id : String} {o : List D → St → Option D} {x : Str} (hc : CallR X (.builtin id) (VArgs L o)) (hm : X.mg x = none) (hv : bootBuiltins x = some (.builtin id)) (ha : PA X (e :: es) (wA L W fa)) (hg : Gl X x := by rfl) (hn : x ≠ "__name__" := by decide)
    (hdb : (x == ("__debug__" : Str)) = false := by decide) (he : starEach (e :: es) X.env = (false, eval e X.env) :: starEach es X.env := by rfl) (hpl : (backTo pos (starEach es X.env)).any (·.1) = false := by rfl) :
    PE X (.Call (.Name x p) (e :: es) [] pos) (wE L W (xB o fa)) := by
  refine PE.imp (pe_callB hc hg hm hv ha hn hdb he hpl) ?_
  rintro σ H Q ⟨ρ, st, env, R, N, q⟩
  refine wA.mono ?_ (wA_bind R N q)
  rintro vs H1 ⟨ρ1, st1, ds, e1, R1, N1, r1, q1⟩
  obtain ⟨d, ed, q2⟩ := ofO_post q1
  exact ⟨ρ1, st1, ds, d, R1, r1, ed, fun ρ' H' v e R r => q2 ρ' H' e R v r⟩
theorem de_ty {id : String} {o : List D → St → Option D} {x : Str} (hc : CallR X (.type id) (VArgs L o)) (hm : X.mg x = none) (hv : bootBuiltins x = some (.type id)) (ha : PA X (e :: es) (wA L W fa)) (hg : Gl X x := by rfl) (hn : x ≠ "__name__" := by decide)
    (hdb : (x == ("__debug__" : Str)) = false := by decide) (he : starEach (e :: es) X.env = (false, eval e X.env) :: starEach es X.env := by rfl) (hpl : (backTo pos (starEach es X.env)).any (·.1) = false := by rfl) :
    PE X (.Call (.Name x p) (e :: es) [] pos) (wE L W (xB o fa)) := by
  refine PE.imp (pe_callTy hc hg hm hv ha hn hdb he hpl) ?_
  rintro σ H Q ⟨ρ, st, env, R, N, q⟩
  refine wA.mono ?_ (wA_bind R N q)
  rintro vs H1 ⟨ρ1, st1, ds, e1, R1, N1, r1, q1⟩
  obtain ⟨d, ed, q2⟩ := ofO_post q1
  exact ⟨ρ1, st1, ds, d, R1, r1, ed, fun ρ' H' v e R r => q2 ρ' H' e R v r⟩
/-! ### built-in functions by values -/
theorem reps1 {ρ : Ly} {st : St} {H : Hp} {vs : List V} {d : D} (r : Reps L ρ st H vs [d]) : ∃ v, vs = [v] ∧ Rep L ρ st H v d := by
  cases r with
  | cons h t => cases t; exact ⟨_, rfl, h⟩
theorem reps2 {ρ : Ly} {st : St} {H : Hp} {vs : List V} {d d2 : D} (r : Reps L ρ st H vs [d, d2]) : ∃ v w, vs = [v, w] ∧ Rep L ρ st H v d ∧ Rep L ρ st H w d2 := by
  cases r with
  | cons h t =>
    obtain ⟨w, rfl, h2⟩ := reps1 t
    exact ⟨_, _, rfl, h, h2⟩
theorem cr_lenV (hK : X.K = L.K) : CallR X (.builtin "len") (VArgs L bLen) := by
  refine CallR.imp (CallR.or call_len_str (CallR.or call_len_seq call_len)) ?_
  rintro xs H Q ⟨ρ, st, ds, d, R, r, e, q⟩
  unfold bLen at e
  split at e
  · split at e
    · rename_i s hl
      obtain ⟨v, rfl, r1⟩ := reps1 r
      obtain ⟨x, rfl, rfl⟩ := rep_str r1
      cases e
      refine .inl ⟨x, rfl, by rw [len_tl, ← LN_eq]; exact hl, ?_⟩
      rw [len_tl]
      exact q ρ H _ Ext.refl R (.int _)
    · cases e
  · obtain ⟨v, rfl, r1⟩ := reps1 r
    obtain ⟨p, ys, rfl, t1, t2⟩ := rep_tup r1
    cases e
    refine .inr (.inl ⟨p, ys, rfl, .inr (by rw [hK]; exact t1.sq), ?_⟩)
    rw [t2.length]
    exact q ρ H _ Ext.refl R (.int _)
  · split at e
    · rename_i l hl
      obtain ⟨v, rfl, r1⟩ := reps1 r
      obtain ⟨p, ys, rfl, t1, t2, _⟩ := asL_rep R r1 hl
      cases e
      refine .inr (.inl ⟨p, ys, rfl, .inl (by rw [hK]; exact t1), ?_⟩)
      rw [t2.length]
      exact q ρ H _ Ext.refl R (.int _)
    · cases e
  · cases e
theorem cr_ordV : CallR X (.builtin "ord") (VArgs L bOrd) := by
  refine CallR.imp call_ord ?_
  rintro xs H Q ⟨ρ, st, ds, d, R, r, e, q⟩
  unfold bOrd at e
  split at e
  · obtain ⟨v, rfl, r1⟩ := reps1 r
    obtain ⟨x, rfl, hx⟩ := rep_str r1
    cases e
    rename_i c
    have ex : x = ⟨#[c]⟩ := ext_tl hx
    subst ex
    exact ⟨_, rfl, rfl, q ρ H _ Ext.refl R (.int _)⟩
  · cases e
theorem bls_rep {ρ : Ly} {st : St} {H : Hp} : ∀ {l : List D} {xs : List V} {bs : List Bool}, Reps L ρ st H xs l → blsOf l = some bs → xs = bs.map V.bl
  | [], _, _, r, e => by cases r; simp [blsOf] at e; subst e; rfl
  | .bl b :: l, _, _, .cons h t, e => by
    simp only [blsOf] at e
    obtain ⟨bs', e1, rfl⟩ := Option.map_eq_some_iff.mp e
    cases h
    rw [bls_rep t e1]
    rfl
  | .non :: _, _, _, _, e => by simp [blsOf] at e
  | .int _ :: _, _, _, _, e => by simp [blsOf] at e
  | .str _ :: _, _, _, _, e => by simp [blsOf] at e
  | .tup _ :: _, _, _, _, e => by simp [blsOf] at e
  | .lst _ :: _, _, _, _, e => by simp [blsOf] at e
  | .ref _ :: _, _, _, _, e => by simp [blsOf] at e
  | .exc _ :: _, _, _, _, e => by simp [blsOf] at e
theorem cr_allV (hK : X.K = L.K) (hc : X.calm = true) : CallR X (.builtin "all") (VArgs L bAll) := by
  refine CallR.imp (cr_all hc) ?_
  rintro xs H Q ⟨ρ, st, ds, d, R, r, e, q⟩
  unfold bAll at e
  split at e
  · split at e
    · rename_i l hl
      obtain ⟨v, rfl, r1⟩ := reps1 r
      obtain ⟨p, ys, rfl, t1, t2, _⟩ := asL_rep R r1 hl
      obtain ⟨bs, eb, rfl⟩ := Option.map_eq_some_iff.mp e
      refine ⟨p, bs, rfl, ?_, q ρ H _ Ext.refl R (.bl _)⟩
      rw [hK, ← bls_rep t2 eb]
      exact t1
    · cases e
  · cases e
theorem cr_anyV (hK : X.K = L.K) (hc : X.calm = true) : CallR X (.builtin "any") (VArgs L bAny) := by
  refine CallR.imp (cr_any hc) ?_
  rintro xs H Q ⟨ρ, st, ds, d, R, r, e, q⟩
  unfold bAny at e
  split at e
  · split at e
    · rename_i l hl
      obtain ⟨v, rfl, r1⟩ := reps1 r
      obtain ⟨p, ys, rfl, t1, t2, _⟩ := asL_rep R r1 hl
      obtain ⟨bs, eb, rfl⟩ := Option.map_eq_some_iff.mp e
      refine ⟨p, bs, rfl, ?_, q ρ H _ Ext.refl R (.bl _)⟩
      rw [hK, ← bls_rep t2 eb]
      exact t1
    · cases e
  · cases e
theorem cr_maxV (hc : X.calm = true) : CallR X (.builtin "max") (VArgs L bMax2) := by
  refine CallR.imp (call_max2 hc) ?_
  rintro xs H Q ⟨ρ, st, ds, d, R, r, e, q⟩
  unfold bMax2 at e
  split at e
  · obtain ⟨v, w, rfl, r1, r2⟩ := reps2 r
    cases r1; cases r2; cases e
    exact ⟨_, _, rfl, q ρ H _ Ext.refl R (.int _)⟩
  · cases e
theorem cr_minV (hc : X.calm = true) : CallR X (.builtin "min") (VArgs L bMin2) := by
  refine CallR.imp (call_min2 hc) ?_
  rintro xs H Q ⟨ρ, st, ds, d, R, r, e, q⟩
  unfold bMin2 at e
  split at e
  · obtain ⟨v, w, rfl, r1, r2⟩ := reps2 r
    cases r1; cases r2; cases e
    exact ⟨_, _, rfl, q ρ H _ Ext.refl R (.int _)⟩
  · cases e
theorem cr_intV : CallR X (.type "int") (VArgs L bInt) := by
  refine CallR.imp call_int1 ?_
  rintro xs H Q ⟨ρ, st, ds, d, R, r, e, q⟩
  unfold bInt at e
  split at e
  · obtain ⟨v, rfl, r1⟩ := reps1 r
    cases r1; cases e
    exact .inl ⟨_, rfl, q ρ H _ Ext.refl R (.int _)⟩
  · obtain ⟨v, rfl, r1⟩ := reps1 r
    cases r1; cases e
    exact .inr ⟨_, rfl, q ρ H _ Ext.refl R (.int _)⟩
  · cases e
/-! ### slices, lists glued -/
theorem sIx_same (n d : Nat) (o : Option Int) : TH.sIx n d o = HT.sIx n d o := by
  cases o <;> rfl
theorem Reps.cut {ρ : Ly} {st : St} {H : Hp} {xs : List V} {l : List D} (r : Reps L ρ st H xs l) (lo hi : Option Int) : Reps L ρ st H (cutV xs lo hi) (TH.cut l lo hi) := by
  unfold cutV TH.cut
  rw [sIx_same, sIx_same, r.length]
  exact (r.drop _).take _
/-- the bounds of a slice -/
def wP (L : Lk) (W : WX) (f : Option EM) : TO := fun σ H Q => wR L W (xPart f) σ H fun o ρ st H' => Q o H'
theorem dp_none : PO X none (wP L W none) := by
  refine ⟨fun pins s σ H Q I h => po_none.run pins s σ H Q I ?_⟩
  obtain ⟨ρ, st, env, R, N, q⟩ := h
  exact q.here R
theorem dp_some (ha : PE X e (wE L W f)) : PO X (some e) (wP L W (some f)) := by
  refine ⟨fun pins s σ H Q I h => (po_some ha).run pins s σ H Q I ?_⟩
  obtain ⟨ρ, st, env, R, N, q⟩ := h
  refine wE.mono ?_ (wE_bind R N q)
  rintro x H1 ⟨ρ1, st1, d1, e1, R1, N1, r1, q1⟩
  cases r1 with
  | int i => exact ⟨i, rfl, q1.here R1⟩
  | _ => exact q1.elim
theorem wP_bind {α : Type} {F : Fn α} {fo : Option EM} {σ : Sl} {H : Hp} {ρ : Ly} {st : St} {env : Env} {k : Option Int → St → RR α} (R : Rel L ρ st H) (N : REnv L ρ st H σ env) (h : PostR L W σ F ρ st H ((xPart fo env st).bind k)) :
    wP L W fo σ H fun o H1 => ∃ ρ1 st1, Ext ρ st H ρ1 st1 H1 ∧ Rel L ρ1 st1 H1 ∧ REnv L ρ1 st1 H1 σ env ∧ PostR L W σ F ρ1 st1 H1 (k o st1) :=
  wR.mono (fun o ρ' st' H' _ q => ⟨ρ', st', q.1, q.2.1, q.2.2.1, q.2.2.2⟩) (wR_bind R N h)
theorem wP.mono {fo : Option EM} {σ : Sl} {H : Hp} {Q Q' : Option Int → Hp → Prop} (i : ∀ v H, Q v H → Q' v H) (h : wP L W fo σ H Q) : wP L W fo σ H Q' := wR.mono (fun a ρ' st' H' _ q => i _ _ q) h
theorem dl_sl {lo hi : Option Expr} {fl fh : Option EM} {p2 : Pos} (hK : X.K = L.K) (ha : PE X e (wE L W f)) (hl : PO X lo (wP L W fl)) (hh : PO X hi (wP L W fh)) : PE X (.Subscript e (.Slice lo hi none p2) pos) (wL L W (lSl f fl fh)) := by
  refine PE.imp (pe_slice sl_list ha hl hh) ?_
  rintro σ H Q ⟨ρ, st, env, R, N, q⟩
  refine wE.mono ?_ (wE_bind R N q)
  rintro x H1 ⟨ρ1, st1, d1, e1, R1, N1, r1, q1⟩
  refine wP.mono ?_ (wP_bind R1 N1 q1)
  rintro l H2 ⟨ρ2, st2, e2, R2, N2, q2⟩
  refine wP.mono ?_ (wP_bind R2 N2 q2)
  rintro u H3 ⟨ρ3, st3, e3, R3, N3, q3⟩
  cases hx : asL st3 d1 with
  | none => rw [hx] at q3; exact q3.elim
  | some xs =>
    rw [hx] at q3
    obtain ⟨a, ys, rfl, t1, t2, _⟩ := asL_rep R3 (Rep.ext (e2.trans e3) _ _ r1) hx
    exact ⟨a, ys, rfl, by rw [hK]; exact t1, fun p hp => q3.here R3 _ _ (t2.cut l u) hp⟩
theorem tl_cutS (z : Str) (lo hi : Option Int) : tl (cutS z lo hi) = TH.cut (tl z) lo hi := by
  unfold cutS TH.cut
  rw [sIx_same, sIx_same, len_tl]
theorem cut_all {α : Type} {l : List α} {lo hi : Option Int} (h : HT.sIx l.length 0 lo = 0 ∧ HT.sIx l.length l.length hi = l.length) : TH.cut l lo hi = l := by
  unfold TH.cut
  rw [sIx_same, sIx_same, h.1, h.2]
  simp
theorem de_sl {lo hi : Option Expr} {fl fh : Option EM} {p2 : Pos} (hK : X.K = L.K) (ha : PE X e (wE L W f)) (hl : PO X lo (wP L W fl)) (hh : PO X hi (wP L W fh)) : PE X (.Subscript e (.Slice lo hi none p2) pos) (wE L W (xSl f fl fh)) := by
  refine PE.imp (pe_slice (SlR.or sl_str sl_tupA) ha hl hh) ?_
  rintro σ H Q ⟨ρ, st, env, R, N, q⟩
  refine wE.mono ?_ (wE_bind R N q)
  rintro x H1 ⟨ρ1, st1, d1, e1, R1, N1, r1, q1⟩
  refine wP.mono ?_ (wP_bind R1 N1 q1)
  rintro l H2 ⟨ρ2, st2, e2, R2, N2, q2⟩
  refine wP.mono ?_ (wP_bind R2 N2 q2)
  rintro u H3 ⟨ρ3, st3, e3, R3, N3, q3⟩
  have r3 := Rep.ext (e2.trans e3) _ _ r1
  cases d1 with
  | str s =>
    obtain ⟨z, rfl, rfl⟩ := rep_str r3
    simp only at q3
    by_cases hs : (tl z).length ≤ LN
    · rw [if_pos hs] at q3
      exact .inl ⟨z, rfl, by rw [len_tl, ← LN_eq]; exact hs, q3.here R3 _ (rep_mk _ (tl_cutS z l u))⟩
    · rw [if_neg hs] at q3
      exact q3.elim
  | tup xs =>
    obtain ⟨a, ys, rfl, t1, t2⟩ := rep_tup r3
    refine .inr ⟨a, ys, rfl, by rw [hK]; exact t1.sq, fun hw => ?_, fun _ p hp => ?_⟩
    · rw [t2.length] at hw
      simp only [cut_all hw] at q3
      exact q3.here R3 _ r3
    · exact q3 ρ3 (upd H3 p (.tup (cutV ys l u))) (ext_new R3 hp) (rel_new R3 hp) _ (.tup (.inl ⟨.inl upd_same, imm_new R3 hp⟩) (Reps.ext (ext_new R3 hp) _ _ (t2.cut l u)))
  | _ => exact q3.elim
/-- two lists glued, wherever they stand -/
def rCatL (K : PySem.W.Frag) : R2 := fun x y H Q => ∃ l b xs zs, x = .ref l ∧ y = .ref b ∧ SqL K H l xs ∧ SqL K H b zs ∧ xs.length + zs.length ≤ sizeLine ∧ ∀ p, H p = none → Q (.ref p) (upd H p (.lst (xs ++ zs)))
theorem op_catL : OpR X (binaryOp .Add) (rCatL X.K) := by
  rintro pins s σ H x y v u Q I rx ry ⟨l, b, xs, zs, rfl, rfl, h1, h2, hz, q⟩
  cases rx
  cases ry
  obtain ⟨its, r1, ⟨⟨c1, dd1, data1, sl1⟩, n1, o1, a1, b1, k1⟩, z1⟩ := I.list h1
  obtain ⟨its2, r2, ⟨⟨c2, dd2, data2, sl2⟩, n2, o2, a2, b2, k2⟩, z2⟩ := I.list h2
  simp only at a1 k1 a2 k2
  subst a1 k1 a2 k2
  have l1 := r1.length
  have l2 := r2.length
  refine concat_meets ⟨_, o1, rfl⟩ ⟨_, o2, rfl⟩ noFill_list_add seq_list_add PySem.F.slot_list_add PySem.F.entry_list_add (PySem.F.args_list_add_2 _ _)
    (PyProof.Rows.list_addW l b its.toArray its2.toArray n1 n2 dd1 dd2 sl1 sl2 (by rw [List.size_toArray, List.size_toArray]; omega)) ⟨o1, o2, ?_⟩
  have ea : its.toArray ++ its2.toArray = (its ++ its2).toArray := by simp
  rw [ea]
  exact ⟨.ref _, _, I.lnew (t' := s.toks) (r1.append r2) (by rw [List.length_append]; omega), rfl, q _ I.fresh⟩
theorem dl_cat (hK : X.K = L.K) (ha : PE X a (wE L W f)) (hb : PE X b (wE L W g)) : PE X (.BinOp a .Add b pos) (wL L W (lCat f g)) := by
  refine PE.imp (pe_op op_catL ha hb) ?_
  rintro σ H Q ⟨ρ, st, env, R, N, q⟩
  refine wE.mono ?_ (wE_bind R N q)
  rintro x H1 ⟨ρ1, st1, d1, e1, R1, N1, r1, q1⟩
  refine wE.mono ?_ (wE_bind R1 N1 q1)
  rintro y H2 ⟨ρ2, st2, d2, e2, R2, N2, r2, q2⟩
  cases hx : asL st2 d1 with
  | none => rw [hx] at q2; exact q2.elim
  | some l1 =>
    cases hy : asL st2 d2 with
    | none => rw [hx, hy] at q2; exact q2.elim
    | some l2 =>
      rw [hx, hy] at q2
      by_cases hl : l1.length + l2.length ≤ LN
      · simp only [if_pos hl] at q2
        obtain ⟨a', xs, rfl, t1, t2, _⟩ := asL_rep R2 (Rep.ext e2 _ _ r1) hx
        obtain ⟨b', ys, rfl, t3, t4, _⟩ := asL_rep R2 r2 hy
        refine ⟨a', b', xs, ys, rfl, rfl, by rw [hK]; exact t1, by rw [hK]; exact t3, by rw [t2.length, t4.length, ← LN_eq]; exact hl, fun p hp => q2.here R2 _ _ (t2.append t4) hp⟩
      · simp only [if_neg hl] at q2
        exact q2.elim
/-- a list some times over -/
def rRepL (K : PySem.W.Frag) : R2 := fun x y H Q => ∃ l k xs, x = .ref l ∧ y = .int k ∧ SqL K H l xs ∧ 0 ≤ k ∧ k ≤ 1000 ∧ xs.length ≤ 1000 ∧ ∀ p, H p = none → Q (.ref p) (upd H p (.lst (List.replicate k.toNat xs).flatten))

theorem relvs_rep {xs : List V} {its : List Value} (r : Vals xs its) : ∀ n : Nat, Vals (List.replicate n xs).flatten (List.replicate n its).flatten
  | 0 => .nil
  | n + 1 => by rw [List.replicate_succ, List.replicate_succ, List.flatten_cons, List.flatten_cons]; exact r.append (relvs_rep r n)
theorem op_repL : OpR X (binaryOp .Mult) (rRepL X.K) := by
  rintro pins s σ H x y v u Q I rx ry ⟨l, k, xs, rfl, rfl, h1, hk0, hk1, hz, q⟩
  cases rx
  obtain ⟨t, rfl⟩ := ry
  obtain ⟨its, r1, ⟨⟨c1, dd1, data1, sl1⟩, n1, o1, a1, b1, k1⟩, z1⟩ := I.list h1
  simp only at a1 k1
  subst a1 k1
  have l1 := r1.length
  have hsl := sizeLine_eq
  have hm : its.length * k.toNat ≤ 1000 * 1000 := Nat.mul_le_mul (by omega) (by omega)
  have hm' : its.toArray.size * k.toNat ≤ 1000 * 1000 := by rw [List.size_toArray]; exact hm
  refine wpAny_binaryOp_repeat_ref (T := "list") (U := "int") (by decide) ⟨_, o1, rfl⟩ (fun s' => typeIs_int s' k t) noFill_list_mul PySem.F.fills_int_mul PySem.F.slot_int_rmul repeat_list PySem.F.slot_int_index.lookup
    (call_meets PySem.F.slot_int_rmul (typeIs_int s k t) PySem.F.entry_int_rmul (PySem.F.args_int_rmul_2 _ _) (lm_int_rmul_list_any k t l its.toArray n1 dd1 sl1)
      ⟨o1, rfl, ⟨_, o1, rfl⟩, call_meets PySem.F.slot_list_mul ⟨_, o1, rfl⟩ PySem.F.entry_list_mul (PySem.F.args_list_mul_2 _ _)
        (lm_list_mul_any l its.toArray n1 dd1 sl1 k t (by simp [Builtin.List.listFitsIndex]; omega) (by omega) (by simp only [Builtin.List.listTooLong, decide_eq_true_eq]; omega))
        ⟨o1, ?_⟩⟩)
  rw [PyProof.Rows.listMul_foldl_if]
  have hlen : (List.replicate k.toNat xs).flatten.length = k.toNat * xs.length := by simp
  exact ⟨.ref _, _, I.lnew (t' := s.toks) (relvs_rep r1 k.toNat) (by rw [hlen, l1, Nat.mul_comm]; omega), rfl, q _ I.fresh⟩
theorem Reps.rep {ρ : Ly} {st : St} {H : Hp} {xs : List V} {ds : List D} (h : Reps L ρ st H xs ds) : ∀ n : Nat, Reps L ρ st H (List.replicate n xs).flatten (List.replicate n ds).flatten
  | 0 => .nil
  | n + 1 => by rw [List.replicate_succ, List.replicate_succ, List.flatten_cons, List.flatten_cons]; exact h.append (Reps.rep h n)
theorem dl_rep (hK : X.K = L.K) (ha : PE X a (wE L W f)) (hb : PE X b (wE L W g)) : PE X (.BinOp a .Mult b pos) (wL L W (lRep f g)) := by
  refine PE.imp (pe_op op_repL ha hb) ?_
  rintro σ H Q ⟨ρ, st, env, R, N, q⟩
  refine wE.mono ?_ (wE_bind R N q)
  rintro x H1 ⟨ρ1, st1, d1, e1, R1, N1, r1, q1⟩
  refine wE.mono ?_ (wE_bind R1 N1 q1)
  rintro y H2 ⟨ρ2, st2, d2, e2, R2, N2, r2, q2⟩
  cases hx : asL st2 d1 with
  | none => rw [hx] at q2; exact q2.elim
  | some l1 =>
    cases d2 with
    | int k =>
      rw [hx] at q2
      by_cases hl : 0 ≤ k ∧ k ≤ 1000 ∧ l1.length ≤ 1000
      · simp only [if_pos hl] at q2
        cases r2
        obtain ⟨a', xs, rfl, t1, t2, _⟩ := asL_rep R2 (Rep.ext e2 _ _ r1) hx
        exact ⟨a', k, xs, rfl, rfl, by rw [hK]; exact t1, hl.1, hl.2.1, by rw [t2.length]; exact hl.2.2, fun p hp => q2.here R2 _ _ (t2.rep _) hp⟩
      · simp only [if_neg hl] at q2
        exact q2.elim
    | _ => rw [hx] at q2; exact q2.elim
/-! ### methods of built-in types -/
def VMt (L : Lk) (o : Op2) : V → List V → Hp → VK → Prop := fun x xs H Q => ∃ ρ st a b d y, Rel L ρ st H ∧ Rep L ρ st H x a ∧ xs = [y] ∧ Rep L ρ st H y b ∧ o a b st = some d ∧
  ∀ (ρ' : Ly) (H' : Hp) (v : V), Ext ρ st H ρ' st H' → Rel L ρ' st H' → Rep L ρ' st H' v d → Q v H'
theorem str_ty {ρ : Ly} {st : St} {H : Hp} {x : V} {d : D} (r : Rep L ρ st H x d) (h : isStr d st = true) : tyV L.K "str" x H := by
  cases r <;> first | rfl | (simp [isStr] at h)
theorem lst_ty {ρ : Ly} {st : St} {H : Hp} {x : V} {d : D} (R : Rel L ρ st H) (r : Rep L ρ st H x d) (h : isLst d st = true) : tyV L.K "list" x H := by
  unfold isLst at h
  cases e : asL st d with
  | none => rw [e] at h; cases h
  | some l =>
    obtain ⟨a, xs, rfl, t1, _⟩ := asL_rep R r e
    exact .inl ⟨rfl, xs, t1⟩
/-- o.m(e), m a built-in method of values -/
theorem de_bm {T id : String} {name : Str} {op : Op2} {ty : D → St → Bool} (hK : X.K = L.K) (hty : ∀ ρ st H x d, Rel L ρ st H → Rep L ρ st H x d → ty d st = true → tyV L.K T x H)
    (pa : PlainAttrs T) (slot : Slot T name id) (hmd : typeOf (.builtin id) = pure (.type "method_descriptor")) (hm : MtR X id (VMt L op)) (ho : PE X o (wE L W f)) (he : PE X e (wE L W g))
    (hbase : attributeBase o name X.env (eval o X.env) = eval o X.env := by rfl) (hfew : ((backTo pos (starEach [e] X.env)).all (fun x => !x.1) && (backToKw pos (keywordEach [] X.env)).all (fun x => x.1.isSome)
      && decide (([e] : List Expr).length + ([] : List Keyword).length + (if ([] : List Keyword).isEmpty then 0 else 1) < 30)) = true := by rfl)
    (hline : (apos.endLine == pos.line) = true := by rfl) (hs : starEach [e] X.env = (false, eval e X.env) :: starEach [] X.env := by rfl) (hplain : (backTo pos (starEach [] X.env)).any (·.1) = false := by rfl) :
    PE X (.Call (.Attribute o name apos) [e] [] pos) (wE L W (xBm ty op f g)) := by
  refine PE.imp (L2.pe_bm pa slot hmd hm ho (da_cons he da_nil hs) hbase hfew hline hs hplain) ?_
  rintro σ H Q ⟨ρ, st, env, R, N, q⟩
  refine wE.mono ?_ (wE_bind R N q)
  rintro x H1 ⟨ρ1, st1, d1, e1, R1, N1, r1, q1⟩
  by_cases ht : ty d1 st1 = true
  · rw [if_pos ht] at q1
    refine ⟨by rw [hK]; exact hty _ _ _ _ _ R1 r1 ht, ρ1, st1, env, R1, N1, ?_⟩
    have z := PostR.bind q1
    unfold aCons
    cases eg : g env st1 with
    | ok d2 st2 =>
      rw [eg] at z
      intro ρ' H' x' R' vs rs
      obtain ⟨e2, R2, q2⟩ := z ρ' H' x' R'
      obtain ⟨d, ed, q3⟩ := ofO_post q2
      obtain ⟨y, rfl, r2⟩ := reps1 rs
      exact ⟨ρ', st2, d1, d2, d, y, R2, Rep.ext x' _ _ r1, rfl, r2, ed, fun ρ' H' v e R r => q3 ρ' H' e R v r⟩
    | exn c st2 => rw [eg] at z; exact z
    | stuck => rw [eg] at z; exact z
  · rw [if_neg ht] at q1
    exact q1.elim
theorem spl_step (c a : Nat) (acc r : List Nat) : spl [c] 0 acc (a :: r) = if a = c then acc :: spl [c] 0 [] r else spl [c] 0 (acc ++ [a]) r := by
  by_cases h : a = c
  · subst h
    rw [if_pos rfl, spl_hit (by simp [pre])]
    rfl
  · rw [if_neg h, spl_miss (by simp [pre, h])]
theorem splitL_ne (c : Nat) (l : List Nat) : splitL c l ≠ [] := by
  cases l with
  | nil => simp [splitL]
  | cons a r =>
    simp only [splitL]
    split
    · simp
    · split <;> simp
theorem spl_splitL (c : Nat) : ∀ (l acc : List Nat), spl [c] 0 acc l = (match splitL c l with | [] => [acc] | p :: ps => (acc ++ p) :: ps)
  | [], acc => by rw [spl_nil]; simp [splitL]
  | a :: r, acc => by
    rw [spl_step]
    by_cases h : a = c
    · rw [if_pos h, spl_splitL c r []]
      simp only [splitL, if_pos h]
      cases e : splitL c r with
      | nil => exact absurd e (splitL_ne c r)
      | cons p ps => simp
    · rw [if_neg h, spl_splitL c r]
      simp only [splitL, if_neg h]
      cases e : splitL c r with
      | nil => exact absurd e (splitL_ne c r)
      | cons p ps => simp
theorem split_parts {x y : Str} {c : Nat} (hy : tl y = [c]) (hc : c < 256) : (Txt.split x y).map tl = splitL c (tl x) := by
  have ey : y = ⟨#[c]⟩ := ext_tl hy
  rw [split_spl x y (by rw [hy]; simp) (kind_ok (by rw [ey]; simp [hc])), hy, spl_splitL]
  cases e : splitL c (tl x) with
  | nil => exact absurd e (splitL_ne c _)
  | cons p ps => simp
theorem reps_strs {ρ : Ly} {st : St} {H : Hp} : ∀ (ys : List Str), Reps L ρ st H (ys.map V.str) ((ys.map tl).map D.str)
  | [] => .nil
  | y :: ys => .cons (.str y) (reps_strs ys)
theorem splitD_some {x y : D} {l : List D} (h : splitD x y = some l) : ∃ s c, x = .str s ∧ y = .str [c] ∧ s.length + 2 ≤ LN ∧ c < 256 ∧ l = (splitL c s).map D.str := by
  unfold splitD at h
  split at h
  · split at h
    · split at h
      · split at h
        · rename_i hl
          cases h
          exact ⟨_, _, rfl, rfl, hl.1, hl.2, rfl⟩
        · cases h
      · cases h
    · cases h
  · cases h
theorem ofL_post {F : Fn (List D)} {o : Option (List D)} {ρ : Ly} {st : St} {H : Hp} {σ : Sl} (h : PostR L W σ F ρ st H (ofL o st)) : ∃ d, o = some d ∧ PostR L W σ F ρ st H (.ok d st) := by
  cases o with
  | none => exact h.elim
  | some d => exact ⟨d, rfl, h⟩
theorem dl_split (hK : X.K = L.K) (ho : PE X o (wE L W f)) (he : PE X e (wE L W g)) (hs : starEach [e] X.env = [(false, eval e X.env)] := by rfl) (hbase : attributeBase o "split" X.env (eval o X.env) = eval o X.env := by rfl) (hline : (apos.endLine == pos.line) = true := by rfl) :
    PE X (.Call (.Attribute o "split" apos) [e] [] pos) (wL L W (lSplit f g)) := by
  refine PE.imp (pe_split ho he hs hbase hline) ?_
  rintro σ H Q ⟨ρ, st, env, R, N, q⟩
  refine wE.mono ?_ (wE_bind R N q)
  rintro x H1 ⟨ρ1, st1, d1, e1, R1, N1, r1, q1⟩
  by_cases ht : isStr d1 st1 = true
  · rw [if_pos ht] at q1
    refine ⟨?_, ?_⟩
    · cases r1 <;> first | exact ⟨_, rfl⟩ | (simp [isStr] at ht)
    refine wE.mono ?_ (wE_bind R1 N1 q1)
    rintro y H2 ⟨ρ2, st2, d2, e2, R2, N2, r2, q2⟩
    obtain ⟨l, hl, q3⟩ := ofL_post q2
    obtain ⟨s, c, rfl, rfl, h1, h2, rfl⟩ := splitD_some hl
    obtain ⟨z, rfl, rfl⟩ := rep_str r1
    obtain ⟨w, rfl, hw⟩ := rep_str r2
    refine ⟨z, w, rfl, rfl, by rw [len_tl, hw]; rfl, by rw [len_tl, ← LN_eq]; exact h1, fun p hp => ?_⟩
    have k := reps_strs (L := L) (ρ := ρ2) (st := st2) (H := H2) (Txt.split z w)
    rw [split_parts hw h2] at k
    exact q3.here R2 _ p k hp
  · rw [if_neg ht] at q1
    exact q1.elim
theorem strs_rep {ρ : Ly} {st : St} {H : Hp} : ∀ {l : List D} {xs : List V} {ps : List (List Nat)}, Reps L ρ st H xs l → strsOf l = some ps → ∃ ys : List Str, xs = ys.map V.str ∧ ys.map tl = ps
  | [], _, _, r, e => by cases r; simp [strsOf] at e; subst e; exact ⟨[], rfl, rfl⟩
  | .str b :: l, _, _, .cons h t, e => by
    simp only [strsOf] at e
    obtain ⟨bs', e1, rfl⟩ := Option.map_eq_some_iff.mp e
    obtain ⟨x, rfl, rfl⟩ := rep_str h
    obtain ⟨ys, rfl, rfl⟩ := strs_rep t e1
    exact ⟨x :: ys, rfl, rfl⟩
  | .non :: _, _, _, _, e => by simp [strsOf] at e
  | .int _ :: _, _, _, _, e => by simp [strsOf] at e
  | .bl _ :: _, _, _, _, e => by simp [strsOf] at e
  | .tup _ :: _, _, _, _, e => by simp [strsOf] at e
  | .lst _ :: _, _, _, _, e => by simp [strsOf] at e
  | .ref _ :: _, _, _, _, e => by simp [strsOf] at e
  | .exc _ :: _, _, _, _, e => by simp [strsOf] at e
theorem joinS_same (S : List Nat) : ∀ ps : List (List Nat), joinS S ps = TL.joinL S ps
  | [] => rfl
  | [p] => rfl
  | p :: q :: r => by
    unfold joinS TL.joinL
    rw [joinS_same S (q :: r)]
theorem mt_joinV (hK : X.K = L.K) : MtR X "str.join" (VMt L oJoin) := by
  refine MtR.imp mt_join ?_
  rintro x xs H Q ⟨ρ, st, a, b, d, y, R, ra, rfl, rb, e, q⟩
  unfold oJoin at e
  split at e
  · rename_i s l hl
    split at e
    · rename_i ps hp
      split at e
      · rename_i hz
        cases e
        obtain ⟨z, rfl, rfl⟩ := rep_str ra
        obtain ⟨p, ys, rfl, t1, t2, _⟩ := asL_rep R rb hl
        obtain ⟨zs, rfl, rfl⟩ := strs_rep t2 hp
        refine ⟨z, p, zs, rfl, rfl, .inl (by rw [hK]; exact t1), ?_, ?_⟩
        · rw [List.map_map, List.length_map] at hz
          rw [len_tl]
          have em : zs.map (fun u => u.length) = zs.map (List.length ∘ tl) := List.map_congr_left fun u _ => len_tl u
          rw [em]
          exact hz
        · refine q ρ H _ Ext.refl R (rep_mk _ ?_)
          rw [join_eq, tl_join, joinS_same]
      · cases e
    · cases e
  · cases e
theorem starts_tl (a b : Str) : Txt.startswith a b = (tl b).isPrefixOf (tl a) := by
  unfold Txt.startswith
  rw [StrLaws.subAt_eq, List.drop_zero, Nat.zero_add, len_tl, len_tl, Bool.eq_iff_iff, List.isPrefixOf_iff_prefix, List.prefix_iff_eq_take, Bool.and_eq_true, decide_eq_true_eq, beq_iff_eq]
  constructor
  · exact fun h => h.2.symm
  · intro h
    refine ⟨?_, h.symm⟩
    have := congrArg List.length h
    rw [List.length_take] at this
    omega
theorem mt_startsV : MtR X "str.startswith" (VMt L oStarts) := by
  refine MtR.imp mt_startswith ?_
  rintro x xs H Q ⟨ρ, st, a, b, d, y, R, ra, rfl, rb, e, q⟩
  unfold oStarts at e
  split at e
  · cases e
    obtain ⟨z, rfl, rfl⟩ := rep_str ra
    obtain ⟨w, rfl, rfl⟩ := rep_str rb
    refine ⟨z, w, rfl, rfl, ?_⟩
    rw [starts_tl]
    exact q ρ H _ Ext.refl R (.bl _)
  · cases e
/-- flat lists' count, index -/
def rCntF (K : PySem.W.Frag) : V → List V → Hp → VK → Prop := fun x xs H Q => ∃ (p : Addr) (ys : List V) (y : V), x = .ref p ∧ xs = [y] ∧ SqL K H p ys ∧ flatV y = true ∧ ys.all flatV = true ∧ Q (.int (ys.countP (fun z => eqV z y) : Nat)) H
theorem count_eqU {y : V} : ∀ {ys : List V} {us : List Value}, Vals ys us → ys.all flatV = true → us.countP (eqU y) = ys.countP fun z => eqV z y
  | _, _, .nil, _ => rfl
  | _, _, .cons r t, f => by
    rw [List.all_cons, Bool.and_eq_true] at f
    rw [List.countP_cons, List.countP_cons, count_eqU t f.2, eqU_of r f.1]
theorem mt_cntF : MtR X "list.count" (rCntF X.K) := by
  rintro pins s σ H x xs v us Q I rx rxs ⟨p, ys, y, rfl, rfl, hs, fy, fys, q⟩
  cases rx
  obtain ⟨u, rfl, ru⟩ := rxs.one
  obtain ⟨its, rv, ⟨⟨cls, dd, data, sl⟩, n, ho, hc, hdn, hd⟩, hlen⟩ := I.list hs
  simp only at hc hd
  subst hc hd
  refine call_meets PySem.F.slot_list_count ⟨_, ho, rfl⟩ PySem.F.entry_list_count (PySem.F.args_list_count_2 _ _)
    (SeqAt.list_countAt p its.toArray n dd sl u (eqU y)) ⟨ho, fun w hw => mem_eqAt ru fy rv fys w (by simpa using hw), ?_⟩
  refine ⟨.int _, H, I.tok _, ⟨s.toks, ?_⟩, q⟩
  show Value.int ((its.toArray.toList.countP (eqU y) : Nat) : Int) s.toks = _
  rw [List.toList_toArray, count_eqU rv fys]
theorem count_flat {ρ : Ly} {st : St} {H : Hp} {y : V} {d : D} (hy : Rep L ρ st H y d) (fy : d.flat = true) : ∀ {vs : List V} {ds : List D}, Reps L ρ st H vs ds → ds.all D.flat = true → (vs.countP fun z => eqV z y) = ds.countP fun z => z.eqv d
  | _, _, .nil, _ => rfl
  | _, _, .cons h t, f => by
    rw [List.all_cons, Bool.and_eq_true] at f
    rw [List.countP_cons, List.countP_cons, count_flat hy fy t f.2, flat_eqv h hy f.1 fy]
theorem mt_countV (hK : X.K = L.K) : MtR X "list.count" (VMt L oCount) := by
  refine MtR.imp mt_cntF ?_
  rintro x xs H Q ⟨ρ, st, a, b, d, y, R, ra, rfl, rb, e, q⟩
  unfold oCount at e
  split at e
  · rename_i l hl
    split at e
    · rename_i hf
      rw [Bool.and_eq_true] at hf
      cases e
      obtain ⟨p, ys, rfl, t1, t2, _⟩ := asL_rep R ra hl
      refine ⟨p, ys, y, rfl, rfl, by rw [hK]; exact t1, flat_rep rb hf.1, flats_rep t2 hf.2, ?_⟩
      rw [count_flat rb hf.1 t2 hf.2]
      exact q ρ H _ Ext.refl R (.int _)
    · cases e
  · cases e
theorem mt_indexV (hK : X.K = L.K) : MtR X "list.index" (VMt L oIndex) := by
  refine MtR.imp mt_index ?_
  rintro x xs H Q ⟨ρ, st, a, b, d, y, R, ra, rfl, rb, e, q⟩
  unfold oIndex at e
  split at e
  · rename_i l hl
    split at e
    · rename_i hf
      rw [Bool.and_eq_true] at hf
      split at e
      · rename_i j hj
        cases e
        obtain ⟨p, ys, rfl, t1, t2, _⟩ := asL_rep R ra hl
        obtain ⟨hjl, h1, h2⟩ := List.findIdx?_eq_some_iff_getElem.mp hj
        obtain ⟨v, hv, rv⟩ := t2.got (List.getElem?_eq_getElem hjl)
        have fl : ∀ m (hm : m < l.length), l[m].flat = true := fun m hm => List.all_eq_true.mp hf.2 _ (List.getElem_mem hm)
        refine ⟨p, ys, y, j, v, rfl, rfl, by rw [hK]; exact t1, flat_rep rb hf.1, flats_rep t2 hf.2, hv, ?_, fun m z' hm hz => ?_, q ρ H _ Ext.refl R (.int _)⟩
        · rw [flat_eqv rv rb (fl j hjl) hf.1]
          exact h1
        · have hml : m < l.length := Nat.lt_trans hm hjl
          obtain ⟨w, hw, rw'⟩ := t2.got (List.getElem?_eq_getElem hml)
          rw [hz] at hw
          cases hw
          rw [flat_eqv rw' rb (fl m hml) hf.1]
          have := h2 m hm
          simpa using this
      · cases e
    · cases e
  · cases e
/-- xs.append(e) -/
theorem de_app (hK : X.K = L.K) (ho : PE X o (wE L W f)) (he : PE X e (wE L W g))
    (hbase : attributeBase o "append" X.env (eval o X.env) = eval o X.env := by rfl) (hfew : ((backTo pos (starEach [e] X.env)).all (fun x => !x.1) && (backToKw pos (keywordEach [] X.env)).all (fun x => x.1.isSome)
      && decide (([e] : List Expr).length + ([] : List Keyword).length + (if ([] : List Keyword).isEmpty then 0 else 1) < 30)) = true := by rfl)
    (hline : (apos.endLine == pos.line) = true := by rfl) (hs : starEach [e] X.env = (false, eval e X.env) :: starEach [] X.env := by rfl) (hplain : (backTo pos (starEach [] X.env)).any (·.1) = false := by rfl) :
    PE X (.Call (.Attribute o "append" apos) [e] [] pos) (wE L W (xApp f g)) := by
  refine PE.imp (L2.pe_bm PySem.F.plainAttrs_list PySem.F.slot_list_append PySem.F.type_list_append mt_append ho (da_cons he da_nil hs) hbase hfew hline hs hplain) ?_
  rintro σ H Q ⟨ρ, st, env, R, N, q⟩
  refine wE.mono ?_ (wE_bind R N q)
  rintro x H1 ⟨ρ1, st1, d1, e1, R1, N1, r1, q1⟩
  by_cases ht : isLst d1 st1 = true
  · rw [if_pos ht] at q1
    refine ⟨by rw [hK]; exact lst_ty R1 r1 ht, ρ1, st1, env, R1, N1, ?_⟩
    have z := PostR.bind q1
    unfold aCons
    cases eg : g env st1 with
    | ok d2 st2 =>
      rw [eg] at z
      intro ρ' H' x' R' vs rs
      obtain ⟨e2, R2, q2⟩ := z ρ' H' x' R'
      obtain ⟨y, rfl, r2⟩ := reps1 rs
      cases r1 with
      | @ref a n h1 =>
        simp only at q2
        cases hn : st2[n]? with
        | none => rw [hn] at q2; exact q2.elim
        | some ob =>
          rw [hn] at q2
          cases ob with
          | ml l =>
            have ha := x'.pre _ _ h1
            obtain ⟨xs, z1, z2⟩ := R2.ob n a _ ha hn
            by_cases hl : l.length < LN
            · simp only [if_pos hl] at q2
              refine ⟨a, xs, y, rfl, rfl, z1, by rw [z2.length, ← LN_eq]; exact hl, ?_⟩
              have ex := ext_set (o := .lst (xs ++ [y])) (ob := .ml (l ++ [d2])) R2 ha hn (fun _ => Ob.noConfusion)
              exact q2 ρ' _ ex (rel_set R2 ha hn (fun _ => Ob.noConfusion) ⟨xs ++ [y], upd_same, Reps.ext ex _ _ (z2.append (.cons r2 .nil))⟩) _ .non
            · simp only [if_neg hl] at q2; exact q2.elim
          | _ => exact q2.elim
      | _ => exact q2.elim
    | exn c st2 => rw [eg] at z; exact z
    | stuck => rw [eg] at z; exact z
  · rw [if_neg ht] at q1
    exact q1.elim
end
end TH
end
section
set_option Elab.async false
set_option linter.all false
set_option autoImplicit false
set_option maxRecDepth 100000
/-! TH5: what is walked, targets, comprehensions. -/
namespace TH
open PySem L2 TL

/-- the turns over items, in any heap that has all that H2 has -/
def Turns (L : Lk) (J : It) (ρ2 : Ly) (st2 : St) (H2 : Hp) (l : List D) : Prop := ∀ H3 : Hp, Same H2 H3 → (∀ i, l.length ≤ i → J.stop i H3) ∧
      ∀ i d, l[i]? = some d → J.go i H3 ∧ ∀ x H4, J.yld i H3 x H4 → H4 = H3 ∧ Rep L ρ2 st2 H2 x d
/-- a walked thing's turns -/
def ItOk (L : Lk) (J : It) (ρ : Ly) (st : St) (H : Hp) : Wk → Prop
  | .data l => ∀ (ρ2 : Ly) (st2 : St) (H2 : Hp), Ext ρ st H ρ2 st2 H2 → Rel L ρ2 st2 H2 → Turns L J ρ2 st2 H2 l
  | .obj n => ∀ (ρ2 : Ly) (st2 : St) (H2 : Hp), Ext ρ st H ρ2 st2 H2 → Rel L ρ2 st2 H2 → ∀ l, st2[n]? = some (.ml l) → Turns L J ρ2 st2 H2 l
def fI (L : Lk) (R : It → Hp → Prop) : Fn Wk := fun w ρ st H => ∀ J, ItOk L J ρ st H w → R J H
def wI (L : Lk) (W : WX) (it : IM) : TI := fun σ H R => wR L W it σ H (fI L R)

section
variable {X : Cx} {L : Lk} {W : WX} {a b e o tg : Expr} {es : List Expr} {f g : EM} {pos p apos : Pos}
theorem same_tup {K : PySem.W.Frag} {H H' : Hp} {a : Addr} {xs : List V} (e : Same H H') (h : SqT K H a xs) : SqT K H' a xs := by
  rcases h with (h | ⟨o, h⟩) | h
  · exact .inl (.inl (e _ _ h))
  · exact .inl (.inr ⟨o, e _ _ h⟩)
  · exact .inr h
theorem itl_ok {K : PySem.W.Frag} {H2 : Hp} {a : Addr} {xs : List V} {l : List D} {ρ2 : Ly} {st2 : St} (h : SqL K H2 a xs) (r : Reps L ρ2 st2 H2 xs l) : Turns L (Itl K a) ρ2 st2 H2 l := by
  intro H3 same
  have h := Same.seq same h
  refine ⟨fun i hi => ⟨xs, h, by rw [r.length]; exact hi⟩, fun i d hd => ?_⟩
  obtain ⟨v, hv, rv⟩ := r.got hd
  refine ⟨⟨xs, v, h, hv⟩, fun x H3 y => ?_⟩
  obtain ⟨y1, y2⟩ := y
  have z := y2 xs h
  rw [hv] at z
  cases z
  exact ⟨y1, rv⟩
theorem itt_ok {K : PySem.W.Frag} {H2 : Hp} {a : Addr} {xs : List V} {l : List D} {ρ2 : Ly} {st2 : St} (h : SqT K H2 a xs) (r : Reps L ρ2 st2 H2 xs l) : Turns L (Itt K a) ρ2 st2 H2 l := by
  intro H3 same
  have h := same_tup same h
  refine ⟨fun i hi => ⟨xs, h, by rw [r.length]; exact hi⟩, fun i d hd => ?_⟩
  obtain ⟨v, hv, rv⟩ := r.got hd
  refine ⟨⟨xs, v, h, hv⟩, fun x H3 y => ?_⟩
  obtain ⟨y1, y2⟩ := y
  have z := y2 xs h
  rw [hv] at z
  cases z
  exact ⟨y1, rv⟩
theorem its_ok {x : Str} {ρ2 : Ly} {st2 : St} {H2 : Hp} : Turns L (Its x) ρ2 st2 H2 ((tl x).map fun c => D.str [c]) := by
  intro H3 _
  refine ⟨fun i hi => by simpa [tl, Its] using hi, fun i d hd => ?_⟩
  rw [List.getElem?_map] at hd
  obtain ⟨c, hc, rfl⟩ := Option.map_eq_some_iff.mp hd
  refine ⟨?_, fun v H3 y => ?_⟩
  · have := (List.getElem?_eq_some_iff.mp hc).1
    simpa [tl, Its] using this
  · obtain ⟨y1, c', hc', rfl⟩ := y
    have ec : c = c' := by
      have h2 : (tl x)[i]? = some c' := by simpa [tl] using hc'
      rw [hc] at h2
      exact Option.some.inj h2
    subst ec
    exact ⟨y1, rep_mk _ rfl⟩
theorem rng_at : ∀ (n i : Nat) (lo : Int), (rng lo n)[i]? = if i < n then some (.int (lo + i)) else none
  | 0, i, lo => by simp [rng]
  | n + 1, 0, lo => by simp [rng]
  | n + 1, i + 1, lo => by
    simp only [rng, List.getElem?_cons_succ]
    rw [rng_at n i (lo + 1)]
    by_cases h : i < n
    · rw [if_pos h, if_pos (by omega)]
      congr 2
      omega
    · rw [if_neg h, if_neg (by omega)]
theorem rng_len : ∀ (n : Nat) (lo : Int), (rng lo n).length = n
  | 0, _ => rfl
  | n + 1, lo => by simp [rng, rng_len n (lo + 1)]
theorem itr_ok {lo : Int} {n : Nat} {ρ2 : Ly} {st2 : St} {H2 : Hp} : Turns L (Itr lo n) ρ2 st2 H2 (rng lo n) := by
  intro H3 _
  refine ⟨fun i hi => by rw [rng_len] at hi; exact hi, fun i d hd => ?_⟩
  rw [rng_at] at hd
  split at hd
  · rename_i h
    cases hd
    exact ⟨h, fun v H3 y => ⟨y.1, by rw [y.2]; exact .int _⟩⟩
  · cases hd
/-- a value that is walked -/
theorem wk_run {pins : List (Addr × Obj)} {s : Shared} {σ : Sl} {H : Hp} {ρ : Ly} {st : St} {v : V} {u : Value} {d : D} {w : Wk} {R : It → Hp → Prop} (hK : X.K = L.K) (I : L2.Inv X pins σ H s) (ru : RelV v u) (Rl : Rel L ρ st H) (r : Rep L ρ st H v d) (e : wkOf d st = some w)
    (q : fI L R w ρ st H) : wpAny (model X.prog X.w) X.A (pyIter u) (PIE X pins σ tg R) X.xe s := by
  have lst : ∀ {a : Addr} {xs : List V}, v = .ref a → SqL X.K H a xs → R (Itl X.K a) H → wpAny (model X.prog X.w) X.A (pyIter u) (PIE X pins σ tg R) X.xe s := fun {a xs} ev h q => by
    subst ev
    cases ru
    obtain ⟨its, rv, pl, _⟩ := I.list h
    exact wpAny_pyIter_list pl.isList (pi_one (tk := s.toks) I _ (turn_list a _) ⟨_, Heap.get?_push_size _ rfl, rfl, rfl⟩ q)
  cases r with
  | str x =>
    simp only [wkOf] at e
    split at e
    · cases e
      obtain ⟨t, rfl⟩ := ru
      have q' : R (Its x) H := q _ fun ρ2 st2 H2 e R => its_ok
      cases ha : x.cps.all (· < 128)
      · exact wpAny_pyIter_wide ha (pi_one (tk := s.toks) I _ (turn_str _ x t "str_iterator" (.inr rfl)) ⟨_, Heap.get?_push_size _ rfl, rfl, rfl⟩ q')
      · exact wpAny_pyIter_ascii ha (pi_one (tk := s.toks) I _ (turn_str _ x t "str_ascii_iterator" (.inl rfl)) ⟨_, Heap.get?_push_size _ rfl, rfl, rfl⟩ q')
    · cases e
  | @tup a xs l h1 h2 =>
    simp only [wkOf, Option.some.injEq] at e
    subst e
    cases ru
    have h : SqT X.K H a xs := by rw [hK]; exact h1.sq
    obtain ⟨its, rv, pt, _⟩ := I.tuple h
    refine wpAny_pyIter_tuple (show s.heap.IsTuple a its.toArray from pt) (pi_one (tk := s.toks) I _ (turn_tuple a _) ⟨_, Heap.get?_push_size _ rfl, rfl, rfl⟩ (q _ fun ρ2 st2 H2 e R => ?_))
    exact itt_ok (by rw [hK]; exact (e.tup h1).sq) (Reps.ext e _ _ h2)
  | @lst a xs l h1 h2 =>
    simp only [wkOf, Option.some.injEq] at e
    subst e
    refine lst rfl (by rw [hK]; exact h1.sq) (q _ fun ρ2 st2 H2 e R => ?_)
    exact itl_ok (by rw [hK]; exact (e.lst h1).sq) (Reps.ext e _ _ h2)
  | @ref a n h1 =>
    simp only [wkOf] at e
    cases hs : st[n]? with
    | none => rw [hs] at e; cases e
    | some ob =>
      rw [hs] at e
      have z := Rl.ob n a ob h1 hs
      cases ob with
      | ml l =>
        cases e
        obtain ⟨xs, z1, z2⟩ := z
        refine lst rfl (SqL.of z1) (q _ fun ρ2 st2 H2 e R l2 hl2 => ?_)
        obtain ⟨xs2, y1, y2⟩ := R.ob n a _ (e.pre _ _ h1) hl2
        exact itl_ok (SqL.of y1) y2
      | fz l =>
        cases e
        obtain ⟨xs, z1, z2⟩ := z
        have i : Imm ρ st a := ⟨fun h => (Rl.outs a h).2 n h1, fun m hm => by
          have em := nodup_at Rl.nd hm h1
          subst em
          exact ⟨l, hs⟩⟩
        refine lst rfl (SqL.of z1) (q _ fun ρ2 st2 H2 e R => ?_)
        have k := e.keep a _ z1 i
        exact itl_ok (SqL.of k.1) (Reps.ext e _ _ z2)
      | md kvs => cases e
      | ins c fs => cases e
  | _ => simp [wkOf] at e
theorem di_val (hK : X.K = L.K) (ha : PE X a (wE L W f)) : PI X tg a (wI L W (iVal f)) := by
  refine ⟨fun pins s σ H R I h => ?_⟩
  obtain ⟨ρ, st, env, Rl, N, q⟩ := h
  refine thn (ha.run pins s σ H _ I (wE_bind Rl N q)) fun v s1 ⟨x, H1, I1, r1, ρ1, st1, d1, e1, R1, N1, rp, q1⟩ => ?_
  cases ew : wkOf d1 st1 with
  | none => rw [ew] at q1; exact q1.elim
  | some w =>
    rw [ew] at q1
    exact wk_run hK I1 r1 R1 rp ew (q1.here R1)
/-- one argument, two arguments -/
theorem wA_one {α : Type} {F : Fn α} {k : D → St → RR α} {ρ : Ly} {st : St} {H : Hp} {σ : Sl} {env : Env} (R : Rel L ρ st H) (N : REnv L ρ st H σ env) (h : PostR L W σ F ρ st H ((f env st).bind k)) :
    wA L W (aCons f aNil) σ H fun vs H1 => ∃ ρ1 st1 x v, vs = [v] ∧ Ext ρ st H ρ1 st1 H1 ∧ Rel L ρ1 st1 H1 ∧ Rep L ρ1 st1 H1 v x ∧ PostR L W σ F ρ1 st1 H1 (k x st1) := by
  refine ⟨ρ, st, env, R, N, ?_⟩
  have z := PostR.bind h
  unfold aCons
  cases eg : f env st with
  | ok d st2 =>
    rw [eg] at z
    intro ρ' H' x' R' vs rs
    obtain ⟨e2, R2, q2⟩ := z ρ' H' x' R'
    obtain ⟨y, rfl, r2⟩ := reps1 rs
    exact ⟨ρ', st2, d, y, rfl, e2, R2, r2, q2⟩
  | exn c st2 => rw [eg] at z; exact z
  | stuck => rw [eg] at z; exact z
theorem wA_two {α : Type} {F : Fn α} {k : D → D → St → RR α} {ρ : Ly} {st : St} {H : Hp} {σ : Sl} {env : Env} (R : Rel L ρ st H) (N : REnv L ρ st H σ env) (h : PostR L W σ F ρ st H ((f env st).bind fun x st => (g env st).bind fun y st => k x y st)) :
    wA L W (aCons f (aCons g aNil)) σ H fun vs H1 => ∃ ρ1 st1 x y v w, vs = [v, w] ∧ Ext ρ st H ρ1 st1 H1 ∧ Rel L ρ1 st1 H1 ∧ Rep L ρ1 st1 H1 v x ∧ Rep L ρ1 st1 H1 w y ∧ PostR L W σ F ρ1 st1 H1 (k x y st1) := by
  refine ⟨ρ, st, env, R, N, ?_⟩
  unfold aCons
  cases eg : f env st with
  | ok d st2 =>
    rw [eg] at h
    cases eh : g env st2 with
    | ok d2 st3 =>
      simp only [RR.bind, eh, aNil] at h ⊢
      intro ρ' H' x' R' vs rs
      obtain ⟨y, w, rfl, r1, r2⟩ := reps2 rs
      exact ⟨ρ', st3, d, d2, y, w, rfl, x', R', r1, r2, PostR.ext h x'⟩
    | exn c st3 => simp only [RR.bind, eh] at h ⊢; exact h
    | stuck => simp only [RR.bind, eh] at h ⊢; exact h
  | exn c st2 => rw [eg] at h; exact h
  | stuck => rw [eg] at h; exact h
theorem wA.use {fa : AM} {σ : Sl} {H : Hp} {Q Q' : List V → Hp → Prop} (h : wA L W fa σ H Q) (i : ∀ v H, Q v H → Q' v H) : wA L W fa σ H Q' := wA.mono i h
theorem di_rng1 (hm : X.mg "range" = none) (ha : PE X a (wE L W f)) (hg : Gl X "range" := by rfl) (hs : starEach [a] X.env = [(false, eval a X.env)] := by rfl) : PI X tg (.Call (.Name "range" p) [a] [] pos) (wI L W (iRng1 f)) := by
  refine ⟨fun pins s σ H R I h => (pi_range1 hg hm (da_cons ha da_nil hs) hs).run pins s σ H R I ?_⟩
  obtain ⟨ρ, st, env, Rl, N, q⟩ := h
  refine (wA_one Rl N q).use ?_
  rintro _ H1 ⟨ρ1, st1, d, v, rfl, e1, R1, r1, q1⟩
  cases r1 with
  | int j =>
    simp only at q1
    split at q1
    · rename_i hj
      exact ⟨j, rfl, hj.1, hj.2, q1.here R1 _ fun ρ2 st2 H2 e R => itr_ok⟩
    · exact q1.elim
  | _ => exact q1.elim
theorem di_rng2 (hm : X.mg "range" = none) (ha : PE X a (wE L W f)) (hb : PE X b (wE L W g)) (hg : Gl X "range" := by rfl) (hs : starEach [a, b] X.env = [(false, eval a X.env), (false, eval b X.env)] := by rfl) (hs2 : starEach [b] X.env = [(false, eval b X.env)] := by rfl) :
    PI X tg (.Call (.Name "range" p) [a, b] [] pos) (wI L W (iRng2 f g)) := by
  refine ⟨fun pins s σ H R I h => (pi_range2 hg hm (da_cons ha (da_cons hb da_nil hs2) (by rw [hs, hs2])) hs hs2).run pins s σ H R I ?_⟩
  obtain ⟨ρ, st, env, Rl, N, q⟩ := h
  refine (wA_two Rl N q).use ?_
  rintro _ H1 ⟨ρ1, st1, d, d2, v, w, rfl, e1, R1, r1, r2, q1⟩
  cases r1 with
  | int i =>
    cases r2 with
    | int j =>
      simp only at q1
      split at q1
      · rename_i hj
        exact ⟨i, j, rfl, hj, q1.here R1 _ fun ρ2 st2 H2 e R => itr_ok⟩
      · exact q1.elim
    | _ => exact q1.elim
  | _ => exact q1.elim

/-! ### targets -/
def setV : List Nat → List V → Sl → Sl
  | i :: is, v :: vs, σ => setV is vs (σ.set i (some v))
  | _, _, σ => σ
def gT (L : Lk) (t : Tg) : TG := fun v σ H Q => ∃ ρ st d, Rel L ρ st H ∧ Rep L ρ st H v d ∧ (match t with
  | .name i => Q (σ.set i (some v)) H
  | .tup is => ∃ ds xs a, d = .tup ds ∧ v = .ref a ∧ TupAt L ρ st H a xs ∧ Reps L ρ st H xs ds ∧ xs.length = is.length ∧ Q (setV is xs σ) H)
def gNs : List Nat → TGs
  | [] => gNil
  | i :: is => gCons (gName i) (gNs is)
theorem gNs_of : ∀ {is : List Nat} {xs : List V} {σ : Sl} {H : Hp} {Q : Sl → Hp → Prop}, xs.length = is.length → Q (setV is xs σ) H → gNs is xs σ H Q
  | [], [], _, _, _, _, q => ⟨rfl, q⟩
  | [], _ :: _, _, _, _, h, _ => by simp at h
  | _ :: _, [], _, _, _, h, _ => by simp at h
  | i :: is, v :: vs, σ, H, Q, h, q => ⟨v, vs, rfl, gNs_of (by simpa using h) q⟩
theorem PG.imp {e : Expr} {t t' : TG} (h : PG X e t) (i : ∀ v σ H Q, t' v σ H Q → t v σ H Q) : PG X e t' := ⟨fun pins s σ H v u Q I r q => h.run pins s σ H v u Q I r (i v σ H Q q)⟩
theorem dg_name {i : Nat} {x : Str} (hN : X.N.Nodup) (hi : X.N[i]? = some x := by rfl) (hx : Loc X.env.scope x := by first | exact Or.inl rfl | exact Or.inr rfl) (hf : X.fn x = true ∨ X.env.scope.names.lookup x = some .local := by first | exact .inl rfl | exact .inr rfl) : PG X (.Name x pos) (gT L (.name i)) := by
  refine PG.imp (pg_name hN hi hx hf) ?_
  rintro v σ H Q ⟨ρ, st, d, R, r, q⟩
  exact q
theorem dg_tup {k : Nat} {is : List Nat} (hK : X.K = L.K) (hc : X.calm = true) (h : PGs X es (gNs is)) (hn : (assignEach es X.env).length = is.length := by rfl) (hst : (assignEach es X.env).findIdx? (·.1) = none := by rfl) : PG X (.Tuple es k pos) (gT L (.tup is)) := by
  refine PG.imp (pg_tup hc h hn hst) ?_
  rintro v σ H Q ⟨ρ, st, d, R, r, ds, xs, a, rfl, rfl, h1, h2, h3, q⟩
  exact ⟨a, xs, rfl, by rw [hK]; exact h1.sq, h3, gNs_of h3 q⟩
theorem REnv.setAll {ρ : Ly} {st : St} {H : Hp} : ∀ {is : List Nat} {xs : List V} {ds : List D} {σ : Sl} {env : Env}, REnv L ρ st H σ env → Reps L ρ st H xs ds → REnv L ρ st H (setV is xs σ) (setAll is ds env)
  | [], _, _, _, _, N, _ => by simpa [setV, TH.setAll] using N
  | _ :: _, [], _, _, _, N, r => by cases r; simpa [setV, TH.setAll] using N
  | i :: is, v :: vs, _, σ, env, N, .cons h t => by
    simp only [setV, TH.setAll]
    exact REnv.setAll (N.set h i) t
theorem wipe_set {i : Nat} {x : Option V} : ∀ {vs : List Nat} {σ : Sl}, L2.wipe (σ.set i x) vs = if i ∈ vs then L2.wipe σ vs else (L2.wipe σ vs).set i x
  | [], σ => by simp [L2.wipe]
  | v :: vs, σ => by
    unfold L2.wipe
    rw [wipe_set (vs := vs)]
    by_cases hi : i ∈ vs
    · rw [if_pos hi, if_pos (List.mem_cons_of_mem _ hi)]
    · rw [if_neg hi]
      by_cases e : i = v
      · subst e
        rw [if_pos List.mem_cons_self, List.set_set]
      · rw [if_neg (by simp [e, hi]), List.set_comm _ _ e]
theorem wipe_setV {vs : List Nat} : ∀ {is : List Nat} {xs : List V} {σ : Sl}, (∀ i ∈ is, i ∈ vs) → L2.wipe (setV is xs σ) vs = L2.wipe σ vs
  | [], _, _, _ => by simp [setV]
  | _ :: _, [], _, _ => by simp [setV]
  | i :: is, v :: xs, σ, h => by
    simp only [setV]
    rw [wipe_setV fun j hj => h j (List.mem_cons_of_mem _ hj), wipe_set, if_pos (h i List.mem_cons_self)]
/-- a target that takes its datum -/
theorem gT_of {t : Tg} {v : V} {d : D} {σ : Sl} {env env' : Env} {ρ : Ly} {st : St} {H : Hp} {Q : Sl → Hp → Prop} (R : Rel L ρ st H) (r : Rep L ρ st H v d) (N : REnv L ρ st H σ env) (e : t.put d env st = some env')
    (q : ∀ σ', REnv L ρ st H σ' env' → (∀ vs : List Nat, (∀ i ∈ t.slots, i ∈ vs) → L2.wipe σ' vs = L2.wipe σ vs) → Q σ' H) : gT L t v σ H Q := by
  refine ⟨ρ, st, d, R, r, ?_⟩
  cases t with
  | name i =>
    simp only [Tg.put, Option.some.injEq] at e
    subst e
    exact q _ (N.set r i) fun vs h => by rw [wipe_set, if_pos (h i (by simp [Tg.slots]))]
  | tup is =>
    simp only [Tg.put] at e
    split at e
    · split at e
      · rename_i ds hl
        cases e
        obtain ⟨a, xs, rfl, h1, h2⟩ := rep_tup r
        exact ⟨ds, xs, a, rfl, rfl, h1, h2, h2.length.trans hl, q _ (N.setAll h2) fun vs h => wipe_setV h⟩
      · cases e
    · cases e

/-! ### comprehensions -/
abbrev W0 : WX := fun _ _ _ _ => False
def wTs (L : Lk) : Option EM → TT
  | none => tYes
  | some c => wT L W0 c
theorem REnv.more {ρ : Ly} {st : St} {H : Hp} {σ : Sl} {env : Env} {p : Addr} {o : HO} (N : REnv L ρ st H σ env) (hp : H p = none) : REnv L (ρ.more p) st (upd H p o) σ env :=
  ⟨N.len, fun i d h => let ⟨v, h1, h2⟩ := N.at_ i d h; ⟨v, h1, Rep.more hp _ _ h2⟩⟩
theorem ext_through {ρd ρ3 : Ly} {st2 st3 : St} {Hd H4 : Hp} {D : Addr} {o : HO} (R : Rel L ρd st2 Hd) (hD : Hd D = none) (e : Ext (ρd.more D) st2 (upd Hd D o) ρ3 st3 H4) : Ext ρd st2 Hd (ρ3.less ρd.out) st3 (less H4 D) := by
  refine ⟨fun n a h => e.pre n a h, fun a o' h i => ?_, rfl, fun a h => ?_⟩
  · have hne := ne_of_none h hD
    obtain ⟨k1, k2⟩ := e.keep a o' (by rw [upd_ne hne]; exact h) (imm_more hne i)
    exact ⟨by rw [less_ne hne]; exact k1, (imm_less (e.out : ρ3.out = D :: ρd.out) k2).2⟩
  · have hne := R.neout hD h
    rw [less_ne hne, e.outk a (List.mem_cons_of_mem _ h), upd_ne hne]
theorem upd_less {H : Hp} {p : Addr} {o : HO} : upd (less H p) p o = upd H p o := by
  funext b
  by_cases h : b = p
  · subst h; rw [upd_same, upd_same]
  · rw [upd_ne h, upd_ne h, less_ne h]
/-- between two turns: the new list at D, all else beside -/
def CInv (L : Lk) (W : WX) (σ : Sl) (Q : VK) (ρ1 : Ly) (st1 : St) (H1 : Hp) (D : Addr) (K2 : List TH.D → St → RA) (Hc : Hp) : Prop :=
  ∃ ρd st2 Hd xs acc, Hc = upd Hd D (.lst xs) ∧ Hd D = none ∧ Rel L ρd st2 Hd ∧ Ext ρ1 st1 H1 ρd st2 Hd ∧ Reps L ρd st2 Hd xs acc ∧ PostR L W σ (fL L Q) ρd st2 Hd (K2 acc st2)
theorem noX_bind {α β : Type} {F : Fn β} {r : RR α} {k : α → St → RR β} {σ : Sl} {ρ : Ly} {st : St} {H : Hp} (h : PostR L W σ F ρ st H ((noX r).bind k)) :
    ∃ a st', r = .ok a st' ∧ PostR L W σ F ρ st H (k a st') := by
  cases r with
  | ok a st' => exact ⟨a, st', rfl, h⟩
  | exn c st' => exact h.elim
  | stuck => exact h.elim
theorem comp_turn {t : Tg} {c : Option EM} {el : EM} {K2 : List D → St → RA} {σ : Sl} {Q : VK} {ρ1 ρd : Ly} {st1 st2 : St} {H1 Hd : Hp} {D : Addr} {xs : List V} {acc : List TH.D} {env0 : Env} {vs : List Nat} {x : V} {d : TH.D}
    (hs : ∀ i ∈ t.slots, i ∈ vs) (hD : Hd D = none) (R : Rel L ρd st2 Hd) (e : Ext ρ1 st1 H1 ρd st2 Hd) (r : Reps L ρd st2 Hd xs acc) (N : REnv L ρd st2 Hd (L2.wipe σ vs) env0) (rx : Rep L ρd st2 Hd x d)
    (q : PostR L W σ (fL L Q) ρd st2 Hd ((cTurn t c el env0 d st2).bind fun y st => match y with | some y => if acc.length < LN then K2 (acc ++ [y]) st else .stuck | none => K2 acc st)) :
    gT L t x (L2.wipe σ vs) (upd Hd D (.lst xs)) fun σ2 H2 => L2.wipe σ2 vs = L2.wipe σ vs ∧ wTs L c σ2 H2 fun b H3 =>
      if b = true then wE L W0 el σ2 H3 fun y H4 => ∃ acc, H4 D = some (.lst acc) ∧ acc.length < sizeLine ∧ CInv L W σ Q ρ1 st1 H1 D K2 (upd H4 D (.lst (acc ++ [y]))) else CInv L W σ Q ρ1 st1 H1 D K2 H3 := by
  unfold cTurn at q
  cases et : t.put d env0 st2 with
  | none => rw [et] at q; exact q.elim
  | some env1 =>
    rw [et] at q
    refine gT_of (R.more hD) (Rep.more hD _ _ rx) (N.more hD) et fun σ2 N2 hw => ⟨?_, ?_⟩
    · rw [hw vs hs]
      have idem : ∀ (us : List Nat) (τ : Sl), (∀ v ∈ us, v ∈ vs) → L2.wipe (L2.wipe τ us) vs = L2.wipe τ vs := by
        intro us
        induction us with
        | nil => intro τ _; rfl
        | cons u us ih =>
          intro τ h
          show L2.wipe ((L2.wipe τ us).set u none) vs = _
          rw [wipe_set, if_pos (h u List.mem_cons_self)]
          exact ih τ fun v hv => h v (List.mem_cons_of_mem _ hv)
      exact idem vs σ fun _ h => h
    -- the element, from any state behind the test
    have elt : ∀ (ρ3 : Ly) (st3 : St) (H3 : Hp), Ext (ρd.more D) st2 (upd Hd D (.lst xs)) ρ3 st3 H3 → Rel L ρ3 st3 H3 → PostR L W σ (fL L Q) ρd st2 Hd ((((noX (el env1 st3)).bind fun y st => (.ok (some y) st : RR (Option TH.D)))).bind fun y st => match y with | some y => if acc.length < LN then K2 (acc ++ [y]) st else .stuck | none => K2 acc st) →
        wE L W0 el σ2 H3 fun y H4 => ∃ acc, H4 D = some (.lst acc) ∧ acc.length < sizeLine ∧ CInv L W σ Q ρ1 st1 H1 D K2 (upd H4 D (.lst (acc ++ [y]))) := fun ρ3 st3 H3 e3 R3 q3 => by
      refine ⟨ρ3, st3, env1, R3, N2.ext e3, ?_⟩
      cases ee : el env1 st3 with
      | exn c st' => rw [ee] at q3; exact q3.elim
      | stuck => rw [ee] at q3; exact q3.elim
      | ok y st4 =>
        rw [ee] at q3
        intro ρ4 H4 e4 R4 v rv
        have e34 := e3.trans e4
        have ho : ρ4.out = D :: ρd.out := e34.out
        have x4 := ext_through R hD e34
        have hHD : H4 D = some (.lst xs) := by rw [e34.outk D List.mem_cons_self, upd_same]
        have q4 : PostR L W σ (fL L Q) ρd st2 Hd (if acc.length < LN then K2 (acc ++ [y]) st4 else .stuck) := q3
        by_cases hl : acc.length < LN
        · rw [if_pos hl] at q4
          refine ⟨xs, hHD, by rw [r.length, ← LN_eq]; exact hl, ρ4.less ρd.out, st4, less H4 D, xs ++ [v], acc ++ [y], upd_less.symm, less_same, R4.less ho (R.noout hD), e.trans x4, ?_, q4.ext x4⟩
          exact (Reps.ext x4 _ _ r).append (.cons (Rep.less ho _ _ rv) .nil)
        · rw [if_neg hl] at q4
          exact q4.elim
    cases c with
    | none =>
      simp only [wTs, tYes, if_true]
      exact elt _ _ _ Ext.refl (R.more hD) q
    | some c =>
      refine ⟨ρd.more D, st2, env1, R.more hD, N2, ?_⟩
      simp only at q
      cases ec : c env1 st2 with
      | exn c st' => rw [ec] at q; exact q.elim
      | stuck => rw [ec] at q; exact q.elim
      | ok z st3 =>
        rw [ec] at q
        intro ρ3 H3 e3 R3
        have q : PostR L W σ (fL L Q) ρd st2 Hd ((match truthy st3 z with
          | some true => (noX (el env1 st3)).bind fun y st => (.ok (some y) st : RR (Option TH.D))
          | some false => .ok none st3
          | none => .stuck).bind fun y st => match y with | some y => if acc.length < LN then K2 (acc ++ [y]) st else .stuck | none => K2 acc st) := q
        cases ek : truthy st3 z with
        | none => rw [ek] at q; exact q.elim
        | some k =>
          rw [ek] at q
          refine ⟨k, ek, ?_⟩
          cases k with
          | true =>
            rw [if_pos rfl]
            exact elt ρ3 st3 H3 e3 R3 q
          | false =>
            rw [if_neg Bool.false_ne_true]
            have ho : ρ3.out = D :: ρd.out := e3.out
            have x4 := ext_through R hD e3
            have hHD : H3 D = some (.lst xs) := by rw [e3.outk D List.mem_cons_self, upd_same]
            refine ⟨ρ3.less ρd.out, st3, less H3 D, xs, acc, (less_upd hHD).symm, less_same, R3.less ho (R.noout hD), e.trans x4, Reps.ext x4 _ _ r, PostR.ext q x4⟩
theorem comp_tLc {it : IM} {t : Tg} {c : Option EM} {el : EM} {vs : List Nat} (hsl : ∀ i ∈ t.slots, i ∈ vs) {σ : Sl} {H : Hp} {Q : VK} (q : wL L W (lComp it t c el vs) σ H Q) : tLc (wI L W it) (gT L t) (wTs L c) (wE L W0 el) vs σ H Q := by
  obtain ⟨ρ, st, env, R, N, q⟩ := q
  refine ⟨ρ, st, env, R, N, PostR.mono ?_ (PostR.bind q)⟩
  rintro w ρ1 st1 H1 e0 _ ⟨e1, R1, q1⟩ J hJ D hD
  have N1 := (N.ext e1).wipe vs
  cases w with
  | data l =>
    refine ⟨fun i m Hc => i ≤ l.length ∧ m = l.length - i ∧ CInv L W σ Q ρ1 st1 H1 D (fun acc st => cData t c el (TH.wipe env vs) (l.drop i) acc st) Hc, ⟨_, Nat.zero_le _, rfl, ρ1, st1, H1, [], [], rfl, hD, R1, Ext.refl, .nil, q1⟩, ?_⟩
    rintro i m Hc ⟨hi, rfl, ρd, st2, Hd, xs, acc, rfl, hDd, Rd, ed, rd, qd⟩
    have T := hJ ρd st2 Hd ed Rd _ (fun b o h => by rw [upd_ne (ne_of_none h hDd)]; exact h : Same Hd (upd Hd D (.lst xs)))
    by_cases hlt : i < l.length
    · refine .inr ⟨(T.2 i _ (List.getElem?_eq_getElem hlt)).1, CInv L W σ Q ρ1 st1 H1 D (fun acc st => cData t c el (TH.wipe env vs) (l.drop (i + 1)) acc st), fun H' h' => ⟨_, by omega, hlt, rfl, h'⟩, fun x H' y => ?_⟩
      obtain ⟨rfl, rx⟩ := (T.2 i _ (List.getElem?_eq_getElem hlt)).2 x H' y
      rw [List.drop_eq_getElem_cons hlt] at qd
      exact comp_turn hsl hDd Rd ed rd (N1.ext ed) rx qd
    · have ei : i = l.length := by omega
      subst ei
      rw [List.drop_length] at qd
      exact .inl ⟨T.1 _ (Nat.le_refl _), qd.here Rd _ _ rd hDd⟩
  | obj n =>
    refine ⟨fun i m Hc => CInv L W σ Q ρ1 st1 H1 D (fun acc st => cObj t c el (TH.wipe env vs) n m i acc st) Hc, ⟨FU, ρ1, st1, H1, [], [], rfl, hD, R1, Ext.refl, .nil, q1⟩, ?_⟩
    rintro i m Hc ⟨ρd, st2, Hd, xs, acc, rfl, hDd, Rd, ed, rd, qd⟩
    cases m with
    | zero => exact qd.elim
    | succ m =>
      simp only [cObj] at qd
      cases hn : st2[n]? with
      | none => rw [hn] at qd; exact qd.elim
      | some ob =>
        rw [hn] at qd
        cases ob with
        | ml l =>
          have T := hJ ρd st2 Hd ed Rd l hn _ (fun b o h => by rw [upd_ne (ne_of_none h hDd)]; exact h : Same Hd (upd Hd D (.lst xs)))
          simp only at qd
          cases hl : l[i]? with
          | none =>
            rw [hl] at qd
            exact .inl ⟨T.1 _ (List.getElem?_eq_none_iff.mp hl), qd.here Rd _ _ rd hDd⟩
          | some d =>
            rw [hl] at qd
            refine .inr ⟨(T.2 i _ hl).1, CInv L W σ Q ρ1 st1 H1 D (fun acc st => cObj t c el (TH.wipe env vs) n m (i + 1) acc st), fun H' h' => ⟨m, Nat.lt_succ_self _, h'⟩, fun x H' y => ?_⟩
            obtain ⟨rfl, rx⟩ := (T.2 i _ hl).2 x H' y
            exact comp_turn hsl hDd Rd ed rd (N1.ext ed) rx qd
        | _ => exact qd.elim
theorem dl_comp {elt iter : Expr} {ifs : List Expr} {scope : Scope} {own : List (Str × Nat)} {it : IM} {t : Tg} {c : Option EM} {el : EM} {vs : List Nat} (hc : X.calm = true) (hN : X.N.Nodup) (ok : BlkOk X.N X.env.scope scope own) (hi : PI X tg iter (wI L W it))
    (hg : ∀ (s : Shared) (H : Hp) (C : Addr) (cl : List (Str × Addr)) (fp : List Addr), PG (X.blk s H scope (compEnvC scope cl C X.env) fp) tg (gT L t))
    (ht : ∀ (s : Shared) (H : Hp) (C : Addr) (cl : List (Str × Addr)) (fp : List Addr), PTs (X.blk s H scope (compEnvC scope cl C X.env) fp) ifs (wTs L c))
    (he : ∀ (s : Shared) (H : Hp) (C : Addr) (cl : List (Str × Addr)) (fp : List Addr), PE (X.blk s H scope (compEnvC scope cl C X.env) fp) elt (wE L W0 el))
    (ev : own.map (·.2) = vs := by rfl) (hsl : ∀ i ∈ t.slots, i ∈ vs := by decide) (hs : ∀ x, foldedSetIterable iter X.env x = pure x := by intro _; rfl) :
    PE X (.ListComp elt [⟨tg, iter, ifs, 0⟩] scope pos) (wL L W (lComp it t c el vs)) := by
  subst ev
  exact PE.imp (pe_lc hc hN hi ok hg ht he hs) fun σ H Q q => comp_tLc hsl q
theorem dts_nil : PTs X [] (wTs L none) := pts_nil
theorem dts_one {c : Expr} {h : EM} (hc : PT X c (wT L W0 h)) : PTs X [c] (wTs L (some h)) := pts_one hc
end
end TH
end
section
set_option Elab.async false
set_option linter.all false
set_option autoImplicit false
set_option maxRecDepth 100000
/-! TH6: statements. -/
namespace TH
open PySem L2 TL

def PostS (L : Lk) (W : WX) (D : Ends) (ρ : Ly) (st : St) (H : Hp) : RS → Prop
  | .nx env st' => ∀ (ρ' : Ly) (H' : Hp) (σ' : Sl), Ext ρ st H ρ' st' H' → Rel L ρ' st' H' → REnv L ρ' st' H' σ' env → D.nx σ' H'
  | .ret d st' => ∀ (ρ' : Ly) (H' : Hp) (v : V), Ext ρ st H ρ' st' H' → Rel L ρ' st' H' → Rep L ρ' st' H' v d → D.rt v H'
  | .brk env st' => ∀ (ρ' : Ly) (H' : Hp) (σ' : Sl), Ext ρ st H ρ' st' H' → Rel L ρ' st' H' → REnv L ρ' st' H' σ' env → D.bk σ' H'
  | .exn c env st' => ∀ (ρ' : Ly) (H' : Hp) (σ' : Sl), Ext ρ st H ρ' st' H' → Rel L ρ' st' H' → REnv L ρ' st' H' σ' env → W (.ref (L.ca c)) none σ' H'
  | .stuck => False
def wS (L : Lk) (W : WX) (s : SM) : TS := fun D σ H => ∃ ρ st env, Rel L ρ st H ∧ REnv L ρ st H σ env ∧ PostS L W D ρ st H (s env st)
section
variable {L : Lk} {W : WX} {D : Ends} {ρ ρ1 : Ly} {st st1 : St} {H H1 : Hp} {σ : Sl} {env : Env}
theorem PostS.ext {r : RS} (h : PostS L W D ρ st H r) (e : Ext ρ st H ρ1 st1 H1) : PostS L W D ρ1 st1 H1 r := by
  cases r with
  | nx env st' => exact fun ρ' H' σ' e2 => h ρ' H' σ' (e.trans e2)
  | ret d st' => exact fun ρ' H' v e2 => h ρ' H' v (e.trans e2)
  | brk env st' => exact fun ρ' H' σ' e2 => h ρ' H' σ' (e.trans e2)
  | exn c env st' => exact fun ρ' H' σ' e2 => h ρ' H' σ' (e.trans e2)
  | stuck => exact h
/-- an expression of a statement -/
theorem PostS.bindS {α : Type} {r : RR α} {k : α → St → RS} (h : PostS L W D ρ st H (r.bindS env k)) (N : REnv L ρ st H σ env) :
    PostR L W σ (fun a ρ1 st1 H1 => Ext ρ st H ρ1 st1 H1 ∧ Rel L ρ1 st1 H1 ∧ REnv L ρ1 st1 H1 σ env ∧ PostS L W D ρ1 st1 H1 (k a st1)) ρ st H r := by
  cases r with
  | ok a st' => exact fun ρ' H' e R => ⟨e, R, N.ext e, PostS.ext h e⟩
  | exn c st' => exact fun ρ' H' e R => h ρ' H' σ e R (N.ext e)
  | stuck => exact h
theorem wE_bindS {f : EM} {k : TH.D → St → RS} (R : Rel L ρ st H) (N : REnv L ρ st H σ env) (h : PostS L W D ρ st H ((f env st).bindS env k)) :
    wE L W f σ H fun v H1 => ∃ ρ1 st1 d, Ext ρ st H ρ1 st1 H1 ∧ Rel L ρ1 st1 H1 ∧ REnv L ρ1 st1 H1 σ env ∧ Rep L ρ1 st1 H1 v d ∧ PostS L W D ρ1 st1 H1 (k d st1) :=
  ⟨ρ, st, env, R, N, PostR.mono (fun a ρ' st' H' _ _ q v r => ⟨ρ', st', a, q.1, q.2.1, q.2.2.1, r, q.2.2.2⟩) (PostS.bindS h N)⟩
theorem wT_bindS {f : EM} {k : Option Bool → St → RS} (hk : ∀ st, k none st = .stuck) (R : Rel L ρ st H) (N : REnv L ρ st H σ env) (h : PostS L W D ρ st H ((f env st).bindS env fun x st => k (truthy st x) st)) :
    wT L W f σ H fun b H1 => ∃ ρ1 st1, Ext ρ st H ρ1 st1 H1 ∧ Rel L ρ1 st1 H1 ∧ REnv L ρ1 st1 H1 σ env ∧ PostS L W D ρ1 st1 H1 (k (some b) st1) := by
  refine ⟨ρ, st, env, R, N, PostR.mono ?_ (PostS.bindS h N)⟩
  rintro d ρ' st' H' _ _ ⟨e, R', N', q⟩
  cases ek : truthy st' d with
  | none => rw [ek, hk] at q; exact q.elim
  | some b =>
    rw [ek] at q
    exact ⟨b, ek, ρ', st', e, R', N', q⟩
end
section
variable {X : Cx} {L : Lk} {W : WX} {e c : Expr} {f g h : EM} {s1 s2 s3 : SM} {stm : Stmt} {rest : List Stmt} {pos : Pos}
theorem ds_nil : PSs X [] (wS L W sSkip) := by
  refine PSs.imp pss_nil ?_
  rintro D σ H ⟨ρ, st, env, R, N, q⟩
  exact q ρ H σ Ext.refl R N
theorem PostS.seq {D : Ends} {ρ : Ly} {st : St} {H : Hp} {r : RS} {k : Env → St → RS} (q : PostS L W D ρ st H (r.seq k)) :
    PostS L W { D with nx := fun σ' H' => ∃ ρ' st' env', Rel L ρ' st' H' ∧ REnv L ρ' st' H' σ' env' ∧ PostS L W D ρ' st' H' (k env' st') } ρ st H r := by
  cases r with
  | nx env st' => exact fun ρ' H' σ' e R N => ⟨ρ', st', env, R, N, PostS.ext q e⟩
  | ret d st' => exact q
  | brk env st' => exact q
  | exn c env st' => exact q
  | stuck => exact q
theorem ds_cons (h1 : PS X stm (wS L W s1)) (h2 : PSs X rest (wS L W s2)) : PSs X (stm :: rest) (wS L W (sSeq s1 s2)) := by
  refine PSs.imp (pss_cons h1 h2) ?_
  rintro D σ H ⟨ρ, st, env, R, N, q⟩
  exact ⟨ρ, st, env, R, N, PostS.seq q⟩
theorem ds_one (h1 : PS X stm (wS L W s1)) : PSs X [stm] (wS L W s1) := pss_one h1
theorem ds_pass : PS X (.Pass pos) (wS L W sSkip) := by
  refine PS.imp ps_pass ?_
  rintro D σ H ⟨ρ, st, env, R, N, q⟩
  exact q ρ H σ Ext.refl R N
theorem ds_break : PS X (.Break pos) (wS L W sBrk) := by
  refine PS.imp ps_break ?_
  rintro D σ H ⟨ρ, st, env, R, N, q⟩
  exact q ρ H σ Ext.refl R N
theorem ds_expr (he : PE X e (wE L W f)) (hs : swapsWith e none pos.line X.env = pure false := by rfl) : PS X (.Expr e pos) (wS L W (sExpr f)) := by
  refine PS.imp (ps_expr he hs) ?_
  rintro D σ H ⟨ρ, st, env, R, N, q⟩
  refine wE.mono ?_ (wE_bindS R N q)
  rintro v H1 ⟨ρ1, st1, d, e1, R1, N1, r1, q1⟩
  exact q1 ρ1 H1 σ Ext.refl R1 N1
theorem ds_ret (he : PE X e (wE L W f)) : PS X (.Return (some e) pos) (wS L W (sRet f)) := by
  refine PS.imp (ps_ret he) ?_
  rintro D σ H ⟨ρ, st, env, R, N, q⟩
  refine wE.mono ?_ (wE_bindS R N q)
  rintro v H1 ⟨ρ1, st1, d, e1, R1, N1, r1, q1⟩
  exact q1 ρ1 H1 v Ext.refl R1 r1
theorem ds_retN : PS X (.Return none pos) (wS L W sRetN) := by
  refine PS.imp ps_retN ?_
  rintro D σ H ⟨ρ, st, env, R, N, q⟩
  exact q ρ H _ Ext.refl R .non
theorem ds_set {i : Nat} {x : Str} {pos' : Pos} (hN : X.N.Nodup) (he : PE X e (wE L W f)) (hi : X.N[i]? = some x := by rfl) (hx : Loc X.env.scope x := by first | exact Or.inl rfl | exact Or.inr rfl) (hs : swapsWith e (some (.Name x pos')) pos.line X.env = pure false := by rfl)
    (hf : X.fn x = true ∨ X.env.scope.names.lookup x = some .local := by first | exact .inl rfl | exact .inr rfl) : PS X (.Assign [.Name x pos'] e pos) (wS L W (sSet i f)) := by
  refine PS.imp (ps_set hN hi hx he hs hf) ?_
  rintro D σ H ⟨ρ, st, env, R, N, q⟩
  refine wE.mono ?_ (wE_bindS R N q)
  rintro v H1 ⟨ρ1, st1, d, e1, R1, N1, r1, q1⟩
  exact q1 ρ1 H1 _ Ext.refl R1 (N1.set r1 i)
/-- a target that is no plain name -/
theorem ds_tgt {tg : Expr} {t : Tg} (he : PE X e (wE L W f)) (hg : PG X tg (gT L t)) (hs : swapsWithSole [tg] e pos.line X.env = pure false := by rfl) (hw : swappedStores [tg] e X.env = pure none := by rfl)
    (h1 : (assignEach [tg] X.env).map (·.2) = [assign tg X.env] := by rfl) : PS X (.Assign [tg] e pos) (wS L W (sTgt t f)) := by
  refine PS.imp (ps_asg he hg hs hw h1) ?_
  rintro D σ H ⟨ρ, st, env, R, N, q⟩
  refine wE.mono ?_ (wE_bindS R N q)
  rintro v H1 ⟨ρ1, st1, d, e1, R1, N1, r1, q1⟩
  cases et : t.put d env st1 with
  | none => rw [et] at q1; exact q1.elim
  | some env' =>
    rw [et] at q1
    exact gT_of R1 r1 N1 et fun σ' N' _ => q1 ρ1 H1 σ' Ext.refl R1 N'
theorem ds_if {a b : List Stmt} (hc : PT X c (wT L W h)) (ha : PSs X a (wS L W s1)) (hb : PSs X b (wS L W s2)) : PS X (.If c a b pos) (wS L W (sIf h s1 s2)) := by
  refine PS.imp (ps_if hc ha hb) ?_
  rintro D σ H ⟨ρ, st, env, R, N, q⟩
  refine wT.mono ?_ (wT_bindS (k := fun o st => match o with | some true => s1 env st | some false => s2 env st | none => .stuck) (fun _ => rfl) R N q)
  rintro k H1 ⟨ρ1, st1, e1, R1, N1, q1⟩
  cases k with
  | true => exact iteT ⟨ρ1, st1, env, R1, N1, q1⟩
  | false => exact iteF ⟨ρ1, st1, env, R1, N1, q1⟩
/-! ### loops -/
theorem PostS.loop {D : Ends} {nx : Sl → Hp → Prop} {ρ : Ly} {st : St} {H : Hp} {r : RS} {k : Env → St → RS} (q : PostS L W D ρ st H (match r with | .nx e s => k e s | .brk e s => .nx e s | r => r))
    (hn : ∀ ρ' st' H' σ' env', Ext ρ st H ρ' st' H' → Rel L ρ' st' H' → REnv L ρ' st' H' σ' env' → PostS L W D ρ' st' H' (k env' st') → nx σ' H') : PostS L W { D with nx := nx, ct := nx, bk := D.nx } ρ st H r := by
  cases r with
  | nx env st' => exact fun ρ' H' σ' e R N => hn ρ' st' H' σ' env e R N (PostS.ext q e)
  | ret d st' => exact q
  | brk env st' => exact q
  | exn c env st' => exact q
  | stuck => exact q
theorem ds_while {body : List Stmt} (hp : PassesOwn (model X.prog X.w) X.A X.env X.xe) (hc : PT X c (wT L W h)) (hb : PSs X body (wS L W s1)) : PS X (.While c body [] pos) (wS L W (sWhile h s1)) := by
  refine PS.imp (ps_while hp hc hb) ?_
  rintro D σ H ⟨ρ, st, env, R, N, q⟩
  refine ⟨fun m σ' H' => ∃ ρ1 st1 env1, Rel L ρ1 st1 H' ∧ REnv L ρ1 st1 H' σ' env1 ∧ PostS L W D ρ1 st1 H' (wLoop h s1 m env1 st1), ⟨FU, ρ, st, env, R, N, q⟩, ?_⟩
  rintro m σ1 H1 ⟨ρ1, st1, env1, R1, N1, q1⟩
  cases m with
  | zero => exact q1.elim
  | succ m =>
    refine wT.mono ?_ (wT_bindS (k := fun o st => match o with | some true => (match s1 env1 st with | .nx e s => wLoop h s1 m e s | .brk e s => .nx e s | r => r) | some false => .nx env1 st | none => .stuck) (fun _ => rfl) R1 N1 q1)
    rintro k H2 ⟨ρ2, st2, e2, R2, N2, q2⟩
    cases k with
    | false => exact iteF (q2 ρ2 H2 σ1 Ext.refl R2 N2)
    | true =>
      refine iteT ⟨fun σ' H' => ∃ ρ1 st1 env1, Rel L ρ1 st1 H' ∧ REnv L ρ1 st1 H' σ' env1 ∧ PostS L W D ρ1 st1 H' (wLoop h s1 m env1 st1), fun σ' H' h' => ⟨m, Nat.lt_succ_self _, h'⟩, ρ2, st2, env1, R2, N2, ?_⟩
      exact PostS.loop q2 fun ρ' st' H' σ' env' e R N q => ⟨ρ', st', env', R, N, q⟩
theorem ds_for {tg iter : Expr} {body : List Stmt} {it : IM} {t : Tg} (hp : PassesOwn (model X.prog X.w) X.A X.env X.xe) (hc : X.calm = true) (hi : PI X tg iter (wI L W it)) (hg : PG X tg (gT L t)) (hb : PSs X body (wS L W s1))
    (hs : ∀ x, foldedSetIterable iter X.env x = pure x := by intro _; rfl) : PS X (.For tg iter body [] pos) (wS L W (sFor it t s1)) := by
  refine PS.imp (ps_for hp hc hi hg hb hs) ?_
  rintro D σ H ⟨ρ, st, env, R, N, q⟩
  refine ⟨ρ, st, env, R, N, PostR.mono ?_ (PostS.bindS q N)⟩
  rintro w ρ1 st1 H1 _ _ ⟨e1, R1, N1, q1⟩ J hJ
  cases w with
  | data l =>
    refine ⟨fun i m σ' H' => i ≤ l.length ∧ m = l.length - i ∧ ∃ ρ2 st2 env2, Ext ρ1 st1 H1 ρ2 st2 H' ∧ Rel L ρ2 st2 H' ∧ REnv L ρ2 st2 H' σ' env2 ∧ PostS L W D ρ2 st2 H' (fData t s1 (l.drop i) env2 st2), ⟨_, Nat.zero_le _, rfl, ρ1, st1, env, Ext.refl, R1, N1, q1⟩, ?_⟩
    rintro i m σ2 H2 ⟨hi, rfl, ρ2, st2, env2, e2, R2, N2, q2⟩
    have T := hJ ρ2 st2 H2 e2 R2 H2 (Same.refl H2)
    by_cases hlt : i < l.length
    · refine .inr ⟨(T.2 i _ (List.getElem?_eq_getElem hlt)).1, fun σ' H' => ∃ ρ3 st3 env3, Ext ρ1 st1 H1 ρ3 st3 H' ∧ Rel L ρ3 st3 H' ∧ REnv L ρ3 st3 H' σ' env3 ∧ PostS L W D ρ3 st3 H' (fData t s1 (l.drop (i + 1)) env3 st3), fun σ' H' h' => ⟨_, by omega, hlt, rfl, h'⟩, fun x H' y => ?_⟩
      obtain ⟨rfl, rx⟩ := (T.2 i _ (List.getElem?_eq_getElem hlt)).2 x H' y
      rw [List.drop_eq_getElem_cons hlt] at q2
      simp only [fData] at q2
      cases et : t.put l[i] env2 st2 with
      | none => rw [et] at q2; exact q2.elim
      | some env3 =>
        rw [et] at q2
        refine gT_of R2 rx N2 et fun σ' N' _ => ⟨ρ2, st2, env3, R2, N', ?_⟩
        exact PostS.loop q2 fun ρ' st' H' σ' env' e R N q => ⟨ρ', st', env', e2.trans e, R, N, q⟩
    · have ei : i = l.length := by omega
      subst ei
      rw [List.drop_length] at q2
      exact .inl ⟨T.1 _ (Nat.le_refl _), q2 ρ2 H2 σ2 Ext.refl R2 N2⟩
  | obj n =>
    refine ⟨fun i m σ' H' => ∃ ρ2 st2 env2, Ext ρ1 st1 H1 ρ2 st2 H' ∧ Rel L ρ2 st2 H' ∧ REnv L ρ2 st2 H' σ' env2 ∧ PostS L W D ρ2 st2 H' (fObj t s1 n m i env2 st2), ⟨FU, ρ1, st1, env, Ext.refl, R1, N1, q1⟩, ?_⟩
    rintro i m σ2 H2 ⟨ρ2, st2, env2, e2, R2, N2, q2⟩
    cases m with
    | zero => exact q2.elim
    | succ m =>
      simp only [fObj] at q2
      cases hn : st2[n]? with
      | none => rw [hn] at q2; exact q2.elim
      | some ob =>
        rw [hn] at q2
        cases ob with
        | ml l =>
          have T := hJ ρ2 st2 H2 e2 R2 l hn H2 (Same.refl H2)
          simp only at q2
          cases hl : l[i]? with
          | none =>
            rw [hl] at q2
            exact .inl ⟨T.1 _ (List.getElem?_eq_none_iff.mp hl), q2 ρ2 H2 σ2 Ext.refl R2 N2⟩
          | some d =>
            rw [hl] at q2
            simp only at q2
            refine .inr ⟨(T.2 i _ hl).1, fun σ' H' => ∃ ρ3 st3 env3, Ext ρ1 st1 H1 ρ3 st3 H' ∧ Rel L ρ3 st3 H' ∧ REnv L ρ3 st3 H' σ' env3 ∧ PostS L W D ρ3 st3 H' (fObj t s1 n m (i + 1) env3 st3), fun σ' H' h' => ⟨m, Nat.lt_succ_self _, h'⟩, fun x H' y => ?_⟩
            obtain ⟨rfl, rx⟩ := (T.2 i _ hl).2 x H' y
            cases et : t.put d env2 st2 with
            | none => rw [et] at q2; exact q2.elim
            | some env3 =>
              rw [et] at q2
              refine gT_of R2 rx N2 et fun σ' N' _ => ⟨ρ2, st2, env3, R2, N', ?_⟩
              exact PostS.loop q2 fun ρ' st' H' σ' env' e R N q => ⟨ρ', st', env', e2.trans e, R, N, q⟩
        | _ => exact q2.elim
/-! ### o[i] = e, o a list -/
theorem ds_setL {o i : Expr} {tpos : Pos} (he : PE X e (wE L W h)) (ho : PE X o (wE L W f)) (hi : PE X i (wE L W g))
    (ha : ∀ v, assign (.Subscript o i tpos) X.env v = (do
      let ov ← holding [v] (eval o X.env)
      let iv ← holding [v, ov] (eval i X.env)
      standAt tpos
      holding [v, ov, iv] (setItem ov iv v)
      release [v, ov, iv] []) := by intro _; rfl)
    (hs : swapsWithSole [.Subscript o i tpos] e pos.line X.env = pure false := by rfl) (hw : swappedStores [.Subscript o i tpos] e X.env = pure none := by rfl)
    (h1 : (assignEach [.Subscript o i tpos] X.env).map (·.2) = [assign (.Subscript o i tpos) X.env] := by rfl) : PS X (.Assign [.Subscript o i tpos] e pos) (wS L W (sSetL f g h)) := by
  refine PS.imp (ps_asg he (pg_sub ho hi set_list ha) hs hw h1) ?_
  rintro D σ H ⟨ρ, st, env, R, N, q⟩
  refine wE.mono ?_ (wE_bindS R N q)
  rintro v H1 ⟨ρ1, st1, d, e1, R1, N1, r1, q1⟩
  refine wE.mono ?_ (wE_bindS R1 N1 q1)
  rintro x H2 ⟨ρ2, st2, d2, e2, R2, N2, r2, q2⟩
  refine wE.mono ?_ (wE_bindS R2 N2 q2)
  rintro y H3 ⟨ρ3, st3, d3, e3, R3, N3, r3, q3⟩
  cases r2 with
  | @ref a n h1 =>
    cases r3 with
    | int k =>
      simp only at q3
      cases hn : st3[n]? with
      | none => rw [hn] at q3; exact q3.elim
      | some ob =>
        rw [hn] at q3
        cases ob with
        | ml l =>
          simp only at q3
          have ha := e3.pre _ _ h1
          obtain ⟨xs, z1, z2⟩ := R3.ob n a _ ha hn
          cases hj : TH.ixN l.length k with
          | none => rw [hj] at q3; exact q3.elim
          | some j =>
            rw [hj] at q3
            refine ⟨a, xs, k, j, rfl, rfl, z1, by rw [z2.length, ← ixN_same]; exact hj, ?_⟩
            have ex := ext_set (o := .lst (xs.set j v)) (ob := .ml (l.set j d)) R3 ha hn (fun _ => Ob.noConfusion)
            have rv := Rep.ext (e2.trans e3) _ _ r1
            exact q3 ρ3 _ σ ex (rel_set R3 ha hn (fun _ => Ob.noConfusion) ⟨_, upd_same, Reps.ext ex _ _ (z2.set rv j)⟩) (N3.ext ex)
        | _ => exact q3.elim
    | _ => exact q3.elim
  | _ => exact q3.elim
end
end TH
end
section
set_option Elab.async false
set_option linter.all false
set_option autoImplicit false
set_option maxRecDepth 100000
/-! TH7: errors raised and caught; a caught error is data. -/
namespace TH
open PySem L2 TL

section
variable {X : Cx} {L : Lk} {W : WX} {pins : List (Addr × Obj)} {σ : Sl} {H : Hp} {s : Shared}
/-- a thing that is known by what is true of its one object -/
theorem ext_ok {a : Addr} {c : Addr} {h : Heap} {oe : Obj} {vs : Array Value} (ha : h.get? a = some oe) (hz : Zc (.ref c) none oe) (hd : oe.data = .fields vs) : ObjOk X.prog X.w (upd H a (.ext (excPhi c a))) h a (.ext (excPhi c a)) :=
  ⟨⟨oe, vs, ha, hz.1, hz.2, hd⟩, ⟨oe, ha⟩, fun h1 h2 ⟨o, us, e, q⟩ k => ⟨o, us, k o e, q⟩⟩
theorem Inv.track (I : L2.Inv X pins σ H s) {a c : Addr} {oe : Obj} {vs : Array Value} (ha : s.heap.get? a = some oe) (hz : Zc (.ref c) none oe) (hd : oe.data = .fields vs) (na : H a = none) (nL : a ≠ X.env.locals)
    (n0 : X.s_0.heap.get? a = none) (np : ∀ p ∈ X.pn ++ pins, p.1 ≠ a) : L2.Inv X pins σ (upd H a (.ext (excPhi c a))) s := by
  have ne : ∀ {b : Addr} {u : HO}, H b = some u → b ≠ a := fun h => ne_of_none h na
  have B := I.base
  refine ⟨I.ok, I.os, I.bare, ⟨B.keep, B.slot, fun b o e n hx => ?_, B.there, fun b xs e => ?_, fun b o u e => ?_, fun b ps e => ?_⟩, I.loc, I.cell, ?_, fun x cc e => ?_, fun p hp => ?_, fun b u e => ?_, I.len⟩
  · rw [upd_ne (show b ≠ a from fun z => by rw [z, n0] at e; cases e)]
    exact B.free b o e n hx
  · have q := B.tups b xs e
    rw [upd_ne (ne q)]
    exact q
  · have q := B.frzs b o u e
    rw [upd_ne (ne q)]
    exact q
  · obtain ⟨more, q⟩ := B.tbls b ps e
    exact ⟨more, by rw [upd_ne (ne q)]; exact q⟩
  · rw [upd_ne (Ne.symm nL)]
    exact I.free
  · obtain ⟨v, o, q, d⟩ := I.cell x cc e
    rw [upd_ne (show cc ≠ a from fun z => by rw [z, ha] at q; cases q; rw [hd] at d; cases d)]
    exact I.freeC x cc e
  · obtain ⟨q1, q2, q3⟩ := I.pin p hp
    exact ⟨q1, by rw [upd_ne (np p hp)]; exact q2, q3⟩
  · by_cases hb : b = a
    · subst hb
      rw [upd_same] at e
      cases e
      exact ext_ok ha hz hd
    · rw [upd_ne hb] at e
      exact (I.hok b u e).stay (fun _ _ _ q => q) (fun b' q => by rw [upd_ne (ne q)]; exact q) fun b' xs q => by rw [upd_ne (ne q)]; exact q
/-- the suite's context, nothing pinned -/
theorem Inv.intoSuite (I : L2.Inv X pins σ H s) (a : Addr) : L2.Inv (X.suite a (X.pn ++ pins)) [] σ H s :=
  ⟨I.ok.suite _ _, I.os, I.bare, I.base, I.loc, I.cell, I.free, I.freeC, fun p hp => by rw [List.append_nil] at hp; exact I.pin p hp, I.hok, I.len⟩
theorem Inv.outSuite {a : Addr} {pn' : List (Addr × Obj)} (I : L2.Inv (X.suite a (X.pn ++ pins)) pn' σ H s) (ok : X.Ok) : L2.Inv X pins σ H s :=
  ⟨ok, I.os, I.bare, I.base, I.loc, I.cell, I.free, I.freeC, fun p hp => I.pin p (List.mem_append_left _ hp), I.hok, I.len⟩

/-! ### raise -/
theorem ds_raise {e : Expr} {pos : Pos} {c : Nat} (hc : X.calm = true) (tk : Takes X W) (he : PMk X e (fun _ H Q => Q (.ref (L.ca c)) none H)) : PS X (.Raise (some e) none pos) (wS L W (sRaise c)) := by
  refine PS.imp (ps_raise hc tk he) ?_
  rintro D σ H ⟨ρ, st, env, R, N, q⟩
  exact q ρ H σ Ext.refl R N

/-- what the clause wishes of an error of the body -/
def wCatch (L : Lk) (W : WX) (D : Ends) (takes : Nat → Option Bool) (hd : Nat → Env → St → RS) : WX := fun cls d σ H =>
  ∃ c b ρ st env, cls = .ref (L.ca c) ∧ d = none ∧ takes c = some b ∧ Rel L ρ st H ∧ REnv L ρ st H σ env ∧ (if b = true then PostS L W D ρ st H (hd c env st) else W cls d σ H)
theorem PostS.try_ {D : Ends} {ρ : Ly} {st : St} {H : Hp} {takes : Nat → Option Bool} {hd : Nat → Env → St → RS} {r : RS}
    (q : PostS L W D ρ st H (match r with | .exn c env st => (match takes c with | some true => hd c env st | some false => .exn c env st | none => .stuck) | r => r)) : PostS L (wCatch L W D takes hd) D ρ st H r := by
  cases r with
  | exn c env st' =>
    simp only at q
    cases et : takes c with
    | none => rw [et] at q; exact q.elim
    | some b =>
      rw [et] at q
      intro ρ' H' σ' e R N
      refine ⟨c, b, ρ', st', env, rfl, rfl, et, R, N, ?_⟩
      cases b with
      | true => exact iteT (PostS.ext q e)
      | false => exact iteF (q ρ' H' σ' e R N)
  | nx env st' => exact q
  | ret d st' => exact q
  | brk env st' => exact q
  | stuck => exact q
theorem PostS.handled {D : Ends} {ρ : Ly} {st : St} {H : Hp} {i : Nat} {r : RS} (q : PostS L W D ρ st H (match r with | .nx env3 st3 => .nx (env3.set i none) st3 | .brk env3 st3 => .brk (env3.set i none) st3 | .exn _ _ _ => .stuck | r => r)) :
    PostS L W0 { D with nx := fun σ H => D.nx (σ.set i none) H, bk := fun σ H => D.bk (σ.set i none) H, ct := fun σ H => D.ct (σ.set i none) H } ρ st H r := by
  cases r with
  | nx env st' => exact fun ρ' H' σ' e R N => q ρ' H' _ e R (N.unset i)
  | ret d st' => exact q
  | brk env st' => exact fun ρ' H' σ' e R N => q ρ' H' _ e R (N.unset i)
  | exn c env st' => exact q.elim
  | stuck => exact q
theorem PostS.handled0 {D : Ends} {ρ : Ly} {st : St} {H : Hp} {r : RS} (q : PostS L W D ρ st H (match r with | .exn _ _ _ => .stuck | r => r)) : PostS L W0 D ρ st H r := by
  cases r with
  | exn c env st' => exact q.elim
  | nx env st' => exact q
  | ret d st' => exact q
  | brk env st' => exact q
  | stuck => exact q
/-- try: body / except X as n: suite -/
theorem ds_try_as {x n : Str} {cv : Value} {i : Nat} {body suite : List Stmt} {b₀ : Stmt} {np pos pos' : Pos} {s1 h : SM} {takes : Nat → Option Bool} (hs : X.stack = X.env :: X.outer) (hf : X.env.frame = some X.env.locals) (hex : X.ex = []) (hN : X.N.Nodup)
    (hi : X.N[i]? = some n) (hln : X.env.kindOf n = some .local) (hc : Names X x cv) (tk : Takes X W) (htk : ∀ c b, takes c = some b → PySem.W.exmOne X.K (.ref (L.ca c)) cv = some b)
    (hb : ∀ (W' : WX) (pn : List (Addr × Obj)) (xe : Value → Shared → Prop), Takes (X.tr pn xe) W' → PassesOwn (model X.prog X.w) X.A X.env xe → PSs (X.tr pn xe) body (wS L W' s1))
    (hsu : ∀ (a : Addr) (pn : List (Addr × Obj)), PSs (X.suite a pn) (b₀ :: suite) (wS L W0 h)) :
    PS X (.Try body [.ExceptHandler (some (.Name x np)) (some n) (b₀ :: suite) pos'] [] [] pos) (wS L W (sTry s1 takes (hdAs i h))) := by
  refine ⟨fun pins s σ H D I hq => ?_⟩
  obtain ⟨ρ0, st0, env0, R0, N0, q0⟩ := hq
  have q0 := PostS.try_ q0
  have ok := I.ok
  have hfr : X.A.frames = some (X.env :: X.outer) := by rw [ok.frames, hs]
  have hloc : Loc X.env.scope n := .inl hln
  refine wpAny_Try_except ?_
  refine wpAny_mono
    ((hb (wCatch L W D takes (hdAs i h)) (X.pn ++ pins) _ (fun u s' xx => ?_) PassesOwn.looking).run [] s σ H D (I.toTry _) ⟨ρ0, st0, env0, R0, N0, q0⟩)
    (fun f s1 hsp => ?_) (fun e s1 he => he)
  · obtain ⟨a, B, sI, pins', σ', H', cls, d, rfl, J', nb, up, sky, na, os, ag, c, b, ρ, st, env, rfl, rfl, hb1, R, N, hq⟩ := xx
    have J : L2.Inv X pins σ' H' sI := J'.ofTry ok
    have sky' : Sky B (X.env :: X.outer) a (Zc (.ref (L.ca c)) none) X.env.locals s'.heap := by rw [← hs]; exact sky
    show wpAny (model X.prog X.w) X.A (noteFrame (.ref a) X.env) _ _ _
    refine Sky.land Zc.steady hfr hf sky' fun h3 fl3 up3 => ?_
    have J3 : L2.Inv X pins σ' H' { s' with heap := h3 } := J.landed nb fl3.1 (up.trans up3) os ag
    obtain ⟨oe3, vs3, he3, hz3, hd3⟩ := fl3.there
    have frOf : ∀ {h : Heap} {o : Obj} {vs : Array Value}, h.FunFrames B (X.env :: X.outer) → h.get? a = some o → o.data = .fields vs → a ∉ frs (X.env :: X.outer) := fun {h o vs} ff e dd hm => by
      obtain ⟨_, o', e', hnf⟩ := ff.mem hm
      rw [e] at e'
      cases e'
      exact hnf _ dd
    have nfr := frOf fl3.2.2.1 he3 hd3
    have nL : a ≠ X.env.locals := fun z => nfr (List.mem_filterMap.mpr ⟨X.env, List.mem_cons_self, by rw [hf, z]⟩)
    -- the error is younger than all that stood at the entry
    have nI : sI.heap.get? a = none := by
      cases q : sI.heap.get? a with
      | none => rfl
      | some o =>
        have z := nb a o q (by rw [hs]; exact nfr)
        rw [fl3.2.1] at z
        cases z
    have n0 : X.s_0.heap.get? a = none := by
      cases q : X.s_0.heap.get? a with
      | none => rfl
      | some o =>
        obtain ⟨o', z⟩ := J.base.there a o q (by rw [hex]; simp)
        rw [nI] at z
        cases z
    have npa : ∀ p ∈ X.pn ++ pins, p.1 ≠ a := fun p hp z => by
      have k := (J.pin p hp).1
      rw [z, nI] at k
      cases k
    refine wpAny_handleBy_cons (codeAny_handlers_test ?_) (by intro q; cases q)
    have LT : PySem.W.Looks (model X.prog X.w) h3 (typeOf (.ref a)) (.ref (L.ca c)) := fun A Q E s k q => wpAny_typeOf_ref (k _ _ he3) (by rw [hz3.1]; exact q)
    have LM := PySem.W.exm_one (M := model X.prog X.w) (J3.kIn) LT (htk c b hb1)
    have test : ∀ {Q : Value → Shared → Prop} {E : Value → Shared → Prop}, Q cv { s' with heap := h3 } → wpAny (model X.prog X.w) (X.A.mark (some (.ref a))) (eval (.Name x np) X.env) Q E { s' with heap := h3 } := fun {Q E} q => by
      have S3 := Inv.intoSuite J3 a
      obtain ⟨hg, hdbg, hm | ⟨hm, hv, hnn⟩⟩ := hc
      · exact ld_glob (X := X.suite a (X.pn ++ pins)) S3 hg hm q hdbg
      · exact ld_blt (X := X.suite a (X.pn ++ pins)) S3 hg hm hv q hnn hdbg
    refine test (LM.here ?_)
    cases b with
    | true =>
      rw [if_pos rfl] at hq
      refine codeAny_handlers_suite_as ?_
      refine HandSPX.lands_againZ fl3 fun h4 fl4 up4 => ?_
      have J4 : L2.Inv X pins σ' H' { s' with heap := h4 } := J.landed nb fl4.1 ((up.trans up3).trans up4) os ag
      obtain ⟨oe4, vs4, he4, hz4, hd4⟩ := fl4.there
      have T4 := Inv.track J4 he4 hz4 hd4 na nL n0 npa
      have S4 := Inv.intoSuite T4 a
      have x4 : Ext ρ st H' ρ st (upd H' a (.ext (excPhi (L.ca c) a))) := ext_new R na
      have R4 := rel_new (o := .ext (excPhi (L.ca c) a)) R na
      have N4 := (N.ext x4).set (v := .ref a) (d := .exc c) (.exc upd_same (imm_new R na)) i
      refine store_ok (X := X.suite a (X.pn ++ pins)) (v := .ref a) S4 hN hi hloc rfl (fun s5 S5 => ?_) (.inr hln)
      have k5 := (hsu a (X.pn ++ pins)).run [] s5 _ _ _ S5 ⟨ρ, st, _, R4, N4, PostS.handled (PostS.ext hq x4)⟩
      refine wpAny_mono k5 (fun f s6 hsp => ?_) (fun _ _ z => False.elim z)
      have fin : ∀ {σ6 : Sl} {H6 : Hp} {Q : Shared → Prop}, L2.Inv (X.suite a (X.pn ++ pins)) [] σ6 H6 s6 → (∀ s7, L2.Inv X pins (σ6.set i none) H6 s7 → Q s7) →
          wpAny (model X.prog X.w) X.A (do bindName X.env n .none; unbindBehindTheSuite X.env n pos') (fun _ s7 => Q s7) X.xe s6 := fun {σ6 H6 Q} S6 k => gone_ok (Inv.outSuite S6 ok) hN hi hln k
      cases f with
      | next =>
        obtain ⟨σ6, H6, S6, q6⟩ := hsp
        exact fin S6 fun s7 J7 => ⟨_, _, J7, q6⟩
      | brk =>
        obtain ⟨σ6, H6, S6, q6⟩ := hsp
        exact fin S6 fun s7 J7 => ⟨_, _, J7, q6⟩
      | cont =>
        obtain ⟨σ6, H6, S6, q6⟩ := hsp
        exact fin S6 fun s7 J7 => ⟨_, _, J7, q6⟩
      | ret u =>
        obtain ⟨v6, σ6, H6, S6, r6, q6⟩ := hsp
        exact fin S6 fun s7 J7 => ⟨_, _, _, J7, r6, q6⟩
    | false =>
      rw [if_neg Bool.false_ne_true] at hq
      show wpAny _ X.A (handleBy (.ref a) X.env []) _ _ _
      refine wpAny_handleBy_nil ?_
      obtain ⟨k1, k2, k3, oe, vs, T, oT, ts', he, hz, hd, h1, hr⟩ := id fl3
      unfold PySem.passOn
      refine wpAny_bind (wpAny_field he hd h1 ?_)
      rw [if_neg (show ¬ ((Value.ref T == Value.none) = true) from by simp)]
      have fin : wpAny (model X.prog X.w) X.A (setFlight (.ref a) X.env.frame) (fun _ s4 => wpAny (model X.prog X.w) X.A (throw (.ref a) : Sem Flow) (SP X pins D) X.xe s4) X.xe { s' with heap := h3 } := by
        rw [hf]
        refine HandSPX.setFlight_upZ fl3 fun h4 hh4 up4 => wpAny_throw (tk _ _ ?_)
        exact ⟨a, B, sI, pins, σ', H', .ref (L.ca c), none, rfl, J, nb, (up.trans up3).trans up4, .inr (.inr (by rw [hs]; exact hh4)), na, os, ag, hq⟩
      first
        | exact wpAny_bind (wpAny_pure (wpAny_bind fin))
        | exact wpAny_bind fin
  · cases f with
    | next =>
      obtain ⟨σ', H', J', q⟩ := hsp
      exact wpAny_execs_nil ⟨σ', H', J'.ofTry ok, q⟩
    | brk =>
      obtain ⟨σ', H', J', q⟩ := hsp
      exact ⟨σ', H', J'.ofTry ok, q⟩
    | cont =>
      obtain ⟨σ', H', J', q⟩ := hsp
      exact ⟨σ', H', J'.ofTry ok, q⟩
    | ret u =>
      obtain ⟨v, σ', H', J', r, q⟩ := hsp
      exact ⟨v, σ', H', J'.ofTry ok, r, q⟩
end
end TH
end
section
set_option Elab.async false
set_option linter.all false
set_option autoImplicit false
set_option maxRecDepth 100000
/-! TH8: isinstance; comprehensions given to a name; defs; the law's end. -/
namespace TH
open PySem L2 TL PyProof.Rows

section
variable {X : Cx} {L : Lk} {W : WX}
/-- isinstance by what stands in the heap -/
def rIsiV (L : Lk) (ans : D → St → Option Bool) (u : Value) : List V → Hp → VK → Prop := fun xs H Q => ∃ (ρ : Ly) (st : St) (x c : V) (d : D) (b : Bool), xs = [x, c] ∧ RelV c u ∧ Rel L ρ st H ∧ Rep L ρ st H x d ∧ ans d st = some b ∧ Q (.bl b) H
/-- the built-in types -/
def tyS : Nat → String
  | 0 => "NoneType"
  | 1 => "bool"
  | 2 => "int"
  | 3 => "str"
  | 4 => "tuple"
  | _ => "list"
theorem tyN_rep {ρ : Ly} {st : St} {H : Hp} {x : V} {d : D} {k : Nat} (r : Rep L ρ st H x d) (e : tyN st d = some k) : TyX L.K H x (.type (tyS k)) := by
  cases r with
  | non => cases e; exact .base .non
  | bl b => cases e; exact .base (.bl b)
  | int i => cases e; exact .base (.int i)
  | str s => cases e; exact .base (.str s)
  | tup h1 h2 =>
    cases e
    rcases h1 with ⟨h | ⟨o, h⟩, _⟩ | ⟨o, its, n, h, hc, _⟩
    · exact .base (.tup h)
    · exact .fTuple h
    · exact .kTuple h hc
  | lst h1 h2 =>
    cases e
    rcases h1 with ⟨h | ⟨o, h⟩, _⟩ | ⟨o, its, n, h, hc, _⟩
    · exact .base (.lst h)
    · exact .base (.frz h)
    · exact .kList h hc
  | ref h => cases e
  | exc h h2 => cases e
theorem tyN_lt {st : St} {d : D} {k : Nat} (e : tyN st d = some k) : k < 6 := by
  cases d <;> simp [tyN] at e <;> omega
theorem isi_ty {k : Nat} (hk : ∀ t, t < 6 → kitB (tyS t) (tyS k) = some (t == k || (t == 1 && k == 2))) : CallR X (.builtin "isinstance") (fun xs H Q => X.K = L.K ∧ rIsiV L (isiT k) (.type (tyS k)) xs H Q) := by
  refine CallR.imp call_isi ?_
  rintro xs H Q ⟨hK, ρ, st, x, c, d, b, rfl, rc, R, r, e, q⟩
  unfold isiT at e
  obtain ⟨t, et, rfl⟩ := Option.map_eq_some_iff.mp e
  cases c with
  | ty n =>
    have rc : Value.type (tyS k) = Value.type n := rc
    cases rc
    exact ⟨x, _, .type (tyS t), _, _, rfl, .ty _, by rw [hK]; exact tyN_rep r et, kit_ty (hk t (tyN_lt et)), q⟩
  | _ => first | cases (show Value.type (tyS k) = _ from rc) | (obtain ⟨t, z⟩ := (show ∃ t, Value.type (tyS k) = _ from rc); cases z)
/-- of a caught error -/
theorem isi_exc {sub : Nat → Option Bool} {u : Value} (hE : ∀ c b, sub c = some b → ExcC L.K (L.ca c) ∧ PySem.W.kitOne L.K (.ref (L.ca c)) u = some b) (hu : ∀ (c : V) (w : Value), RelV c u → RelV c w → w = u) : CallR X (.builtin "isinstance") (fun xs H Q => X.K = L.K ∧ rIsiV L (isiE sub) u xs H Q) := by
  rintro pins s σ H xs us Q I r ⟨hK, ρ, st, x, c, d, b, rfl, rc, R, rx, e, q⟩
  unfold isiE at e
  split at e
  · rename_i cn
    obtain ⟨u1, u2, rfl, r1, r2⟩ := vals2 r
    have e2 := hu c u2 rc r2
    subst e2
    cases rx with
    | @exc a _ h1 h2 =>
      cases (show u1 = Value.ref a from r1)
      obtain ⟨E, k⟩ := hE cn b e
      obtain ⟨⟨o, vs, g1, g2, g3, g4⟩, _⟩ := I.hok a _ h1
      obtain ⟨oc, od, oda, osl⟩ := o
      dsimp only at g2 g3 g4
      subst g2 g3 g4
      rw [← hK] at k E
      exact PySem.W.kia_one (PySem.W.handS_kitx_exc E.hg E.hk E.hs E.hd E.ha E.hn E.ht E.hm) I.kIn ⟨g1, rfl, rfl, trivial⟩ k (fun z => nomatch z) fun tk => ⟨.bl b, H, I.kept (t' := tk) fun _ _ z => z, rfl, q⟩
  · cases e
theorem de_isi {ans : D → St → Option Bool} {u : Value} {cv : V} {a ce : Expr} {f : EM} {p pos : Pos} (hr : CallR X (.builtin "isinstance") (fun xs H Q => X.K = L.K ∧ rIsiV L ans u xs H Q)) (hK : X.K = L.K) (hm : X.mg "isinstance" = none) (ha : PE X a (wE L W f)) (hce : PE X ce (tC cv)) (hcv : RelV cv u)
    (hg : Gl X "isinstance" := by rfl) (hb : bootBuiltins "isinstance" = some (.builtin "isinstance") := by decide +kernel) (hs : starEach [ce] X.env = (false, eval ce X.env) :: starEach [] X.env := by rfl) (he : starEach [a, ce] X.env = (false, eval a X.env) :: starEach [ce] X.env := by rfl) (hpl : (backTo pos (starEach [ce] X.env)).any (·.1) = false := by rfl) :
    PE X (.Call (.Name "isinstance" p) [a, ce] [] pos) (wE L W (xIsi ans f)) := by
  refine PE.imp (pe_callB hr hg hm hb (pa_cons ha (pa_cons hce pa_nil hs) he) (by decide) (by decide) he hpl) ?_
  rintro σ H Q ⟨ρ, st, env, R, N, q⟩
  refine wE.mono ?_ (wE_bind R N q)
  rintro v H1 ⟨ρ1, st1, d, e1, R1, N1, r1, q1⟩
  obtain ⟨d2, ed, q2⟩ := ofO_post q1
  obtain ⟨b, eb, rfl⟩ := Option.map_eq_some_iff.mp ed
  exact ⟨hK, ρ1, st1, v, cv, d, b, rfl, hcv, R1, r1, eb, q2.here R1 _ (.bl b)⟩
/-- name = [..] -/
theorem ds_setC {i : Nat} {y : Str} {py : Pos} {elt tg iter : Expr} {ifs : List Expr} {scope : Scope} {own : List (Str × Nat)} {pos spos : Pos} {it : IM} {t : Tg} {c : Option EM} {el f : EM} {vs : List Nat} (hf : f = xLst (lComp it t c el vs) ∨ f = xMut (lComp it t c el vs)) (hc : X.calm = true) (hN : X.N.Nodup) (ok : BlkOk X.N X.env.scope scope own) (hi : PI X tg iter (wI L W it))
    (hg : ∀ (s : Shared) (H : Hp) (C : Addr) (cl : List (Str × Addr)) (fp : List Addr), PG (X.blk s H scope (compEnvC scope cl C X.env) fp) tg (gT L t))
    (ht : ∀ (s : Shared) (H : Hp) (C : Addr) (cl : List (Str × Addr)) (fp : List Addr), PTs (X.blk s H scope (compEnvC scope cl C X.env) fp) ifs (wTs L c))
    (he : ∀ (s : Shared) (H : Hp) (C : Addr) (cl : List (Str × Addr)) (fp : List Addr), PE (X.blk s H scope (compEnvC scope cl C X.env) fp) elt (wE L W0 el))
    (hy : X.N[i]? = some y := by rfl) (hyl : X.env.scope.names.lookup y = some .local := by rfl) (hsw : swapsWith (.ListComp elt [⟨tg, iter, ifs, 0⟩] scope pos) (some (.Name y py)) spos.line X.env = pure true := by exact sw_true rfl rfl rfl (by decide +kernel))
    (ev : own.map (·.2) = vs := by rfl) (hsl : ∀ i ∈ t.slots, i ∈ vs := by decide) (hs : ∀ x, foldedSetIterable iter X.env x = pure x := by intro _; rfl) :
    PS X (.Assign [.Name y py] (.ListComp elt [⟨tg, iter, ifs, 0⟩] scope pos) spos) (wS L W (sSet i f)) := by
  subst ev
  refine PS.imp (ps_setLc hc hN hy hyl hsw hi ok hg ht he hs) ?_
  rintro D σ H ⟨ρ, st, env, R, N, q⟩
  have z : wE L W f σ H fun x H1 => gName i x σ H1 D.nx := by
    refine wE.mono ?_ (wE_bindS R N q)
    rintro v H1 ⟨ρ1, st1, d, e1, R1, N1, r1, q1⟩
    exact q1 ρ1 H1 _ Ext.refl R1 (N1.set r1 i)
  rcases hf with rfl | rfl
  · exact comp_tLc hsl (new_wL z)
  · exact comp_tLc hsl (mut_wL z)
end

/-! ### defs -/
section
variable {P : Program} {w : World} {K : PySem.W.Frag} {mg : Str → Option Value} {base : Heap} {L : Lk}
theorem start_env {ρ : Ly} {st : St} {H : Hp} {N : List Str} {vs : List V} {ds : List D} (r : Reps L ρ st H vs ds) : REnv L ρ st H (L2.start N vs) (ds.map some ++ List.replicate (N.length - ds.length) none) := by
  unfold L2.start
  rw [r.length]
  refine ⟨by simp [r.length], fun i d h => ?_⟩
  by_cases hi : i < ds.length
  · rw [List.getElem?_append_left (by simpa using hi), List.getElem?_map] at h
    obtain ⟨d', h1, h2⟩ := Option.map_eq_some_iff.mp h
    cases h2
    obtain ⟨v, hv, rv⟩ := r.got h1
    refine ⟨v, ?_, rv⟩
    rw [List.getElem?_append_left (by simpa [r.length] using hi), List.getElem?_map, hv]
    rfl
  · rw [List.getElem?_append_right (by simpa using hi), List.getElem?_replicate] at h
    split at h <;> cases h
/-- the wish of a def's body -/
abbrev WD (E : XK) : WX := fun cls d _ H => E cls d H
theorem fn_ok {x qual : Str} {stm : Stmt} {f : Addr} {fd : FuncData} {N ps : List Str} {k n sl : Nat} {sm : SM} (F : Fun K x qual stm f fd) (S : FnScope N ps (defScope stm)) (hn : ps.length = n) (hsl : N.length = sl)
    (hbody : ∀ (cdv : Value) (A : Around) (outer : List PySem.Env) (s : Shared) (H : Hp) (E : XK), Room k (A.deeper (envOfC qual (defScope stm) s.heap.objs.size f cdv)) →
      PSs (cxOf (L2.CX P w) P w K mg base N qual (defScope stm) f cdv A outer s H E) (defBody stm) (wS L (WD E) sm)) : FnOk P w K mg base (L2.CX P w) (k + 1) f fd ps (spC L (body n sl sm)) := by
  subst hn hsl
  have lens : ∀ vs H Q E, spC L (body ps.length N.length sm) vs H Q E → vs.length = ps.length := by
    rintro vs H Q E ⟨ρ, st, ds, R, r, q⟩
    unfold body at q
    split at q
    · rename_i h
      rw [r.length, h]
    · exact q.elim
  refine F.okX S lens fun cdv A outer s H vs Q E hr h => ⟨_, hbody cdv A outer s H E hr, ?_⟩
  obtain ⟨ρ, st, ds, R, r, q⟩ := h
  unfold body at q
  split at q
  · refine ⟨ρ, st, _, R, start_env r, ?_⟩
    cases e : sm (ds.map some ++ List.replicate (N.length - ds.length) none) st with
    | nx env st' =>
      rw [e] at q
      exact fun ρ' H' σ' e R N => q ρ' H' e R _ .non
    | ret d st' =>
      rw [e] at q
      exact fun ρ' H' v e R r => q ρ' H' e R v r
    | brk env st' => rw [e] at q; exact q.elim
    | exn c env st' =>
      rw [e] at q
      exact fun ρ' H' σ' e R N => q ρ' H' e R
    | stuck => rw [e] at q; exact q.elim
  · exact q.elim
theorem fn_none {f : Addr} {fd : FuncData} {ps : List Str} {k : Nat} : FnOk P w K mg base (L2.CX P w) k f fd ps (spC L fun _ _ => .stuck) :=
  ⟨fun _ _ _ _ ⟨_, _, _, _, _, q⟩ => q.elim, fun _ _ _ _ _ _ _ _ _ _ _ _ _ ⟨_, _, _, _, _, q⟩ => q.elim⟩
/-- what the law's end asks -/
theorem law_end {c : List D → St → RE} {H : Hp} {a : Addr} {ns : List Int} (ho : Only H) (hs : SqL L.K H a (ns.map V.int)) (h : ∃ st, c [.lst (ns.map D.int)] [] = .ok (.bl true) st) :
    spC L c [.ref a] H (fun v _ => v = .bl true) fun _ _ _ => False := by
  have reps : ∀ ns : List Int, Reps L ⟨[], []⟩ [] H (ns.map V.int) (ns.map D.int) := fun ns => by
    induction ns with
    | nil => exact .nil
    | cons n ns ih => exact .cons (.int n) ih
  have R : Rel L ⟨[], []⟩ [] H := ⟨rfl, List.nodup_nil, fun a h => (by cases h), fun n a o h => (by simp at h)⟩
  refine ⟨⟨[], []⟩, [], [.lst (ns.map D.int)], R, .cons (.lst ?_ (reps ns)) .nil, ?_⟩
  · rcases hs with h | h
    · exact .inl ⟨h, fun h => (by cases h), fun n hn => (by simp at hn)⟩
    · exact .inr h
  · obtain ⟨st, e⟩ := h
    rw [e]
    intro ρ' H' _ _ v r
    cases r
    rfl
/-! ### what the printed terms use -/
theorem units65 {A : Around} {k : Nat} (hr : Room k A) : A.units + 65 < cLine := by have := hr.un; omega
section
variable {X : Cx} {W : WX} {pos : Pos} {x : Str}
theorem deg_int {n : Int} (h : ∃ t, X.mg x = some (.int n t)) (hg : Gl X x := by rfl) (hd : (x == ("__debug__" : Str)) = false := by decide) : PE X (.Name x pos) (wE L W (xC (.int n))) := by
  obtain ⟨t, h⟩ := h
  exact de_con (pe_glob (v := .int n) hg h ⟨t, rfl⟩ hd) fun _ _ _ => .int n
theorem deg_str {z : Str} {s : List Nat} (h : ∃ t, X.mg x = some (.str z t)) (e : tl z = s := by rfl) (hg : Gl X x := by rfl) (hd : (x == ("__debug__" : Str)) = false := by decide) : PE X (.Name x pos) (wE L W (xC (.str s))) := by
  obtain ⟨t, h⟩ := h
  exact de_con (pe_glob (v := .str z) hg h ⟨t, rfl⟩ hd) fun _ _ _ => rep_mk z e
end
theorem cls_uniq {c : V} {C : Addr} {w : Value} (h1 : RelV c (.ref C)) (h2 : RelV c w) : w = .ref C := by
  cases c with
  | ref a => cases (show Value.ref C = Value.ref a from h1); exact h2
  | non => cases (show Value.ref C = Value.none from h1)
  | bl b => cases (show Value.ref C = Value.bool b from h1)
  | int i => obtain ⟨t, z⟩ := (show ∃ t, Value.ref C = Value.int i t from h1); cases z
  | str i => obtain ⟨t, z⟩ := (show ∃ t, Value.ref C = Value.str i t from h1); cases z
  | byt i => obtain ⟨t, z⟩ := (show ∃ t, Value.ref C = Value.bytes i t from h1); cases z
  | flt i => obtain ⟨t, z⟩ := (show ∃ t, Value.ref C = Value.float i t from h1); cases z
  | ty n => cases (show Value.ref C = Value.type n from h1)
theorem ty_uniq {c : V} {C : String} {w : Value} (h1 : RelV c (.type C)) (h2 : RelV c w) : w = .type C := by
  cases c with
  | ty n => cases (show Value.type C = Value.type n from h1); exact h2
  | non => cases (show Value.type C = Value.none from h1)
  | bl b => cases (show Value.type C = Value.bool b from h1)
  | int i => obtain ⟨t, z⟩ := (show ∃ t, Value.type C = Value.int i t from h1); cases z
  | str i => obtain ⟨t, z⟩ := (show ∃ t, Value.type C = Value.str i t from h1); cases z
  | byt i => obtain ⟨t, z⟩ := (show ∃ t, Value.type C = Value.bytes i t from h1); cases z
  | flt i => obtain ⟨t, z⟩ := (show ∃ t, Value.type C = Value.float i t from h1); cases z
  | ref n => cases (show Value.type C = Value.ref n from h1)
theorem bl_eq {x y : D} {st : St} {d : D} (h : oEq x y st = some d) : ∃ b, d = .bl b := by
  unfold oEq at h
  obtain ⟨k, _, rfl⟩ := Option.map_eq_some_iff.mp h
  exact ⟨k, rfl⟩
theorem bl_ne {x y : D} {st : St} {d : D} (h : oNe x y st = some d) : ∃ b, d = .bl b := by
  unfold oNe at h
  obtain ⟨k, _, rfl⟩ := Option.map_eq_some_iff.mp h
  exact ⟨_, rfl⟩
theorem bl_lt {x y : D} {st : St} {d : D} (h : oLt x y st = some d) : ∃ b, d = .bl b := by
  unfold oLt at h
  split at h <;> first | (cases h; exact ⟨_, rfl⟩) | cases h
theorem bl_le {x y : D} {st : St} {d : D} (h : oLe x y st = some d) : ∃ b, d = .bl b := by
  unfold oLe at h
  split at h <;> first | (cases h; exact ⟨_, rfl⟩) | cases h
theorem bl_gt {x y : D} {st : St} {d : D} (h : oGt x y st = some d) : ∃ b, d = .bl b := by
  unfold oGt at h
  split at h <;> first | (cases h; exact ⟨_, rfl⟩) | cases h
theorem bl_ge {x y : D} {st : St} {d : D} (h : oGe x y st = some d) : ∃ b, d = .bl b := by
  unfold oGe at h
  split at h <;> first | (cases h; exact ⟨_, rfl⟩) | cases h
theorem bl_in {x y : D} {st : St} {d : D} (h : oIn x y st = some d) : ∃ b, d = .bl b := oIn_bl h
theorem bl_notIn {x y : D} {st : St} {d : D} (h : oNotIn x y st = some d) : ∃ b, d = .bl b := by
  unfold oNotIn at h
  split at h <;> first | (cases h; exact ⟨_, rfl⟩) | cases h
theorem bl_is {x y : D} {st : St} {d : D} (h : oIs x y st = some d) : ∃ b, d = .bl b := by
  unfold oIs at h
  split at h
  · split at h <;> (cases h; exact ⟨_, rfl⟩)
  · split at h <;> (cases h; exact ⟨_, rfl⟩)
  · cases h
theorem bl_isNot {x y : D} {st : St} {d : D} (h : oIsNot x y st = some d) : ∃ b, d = .bl b := by
  unfold oIsNot at h
  split at h
  · split at h <;> (cases h; exact ⟨_, rfl⟩)
  · split at h <;> (cases h; exact ⟨_, rfl⟩)
  · cases h
end
end TH
end
section
set_option Elab.async false
set_option linter.all false
set_option autoImplicit false
set_option maxRecDepth 100000
/-! TH15: instances: attributes, methods, making. -/
namespace TH
open PySem L2 TL
section
variable {L : Lk} {ρ ρ' : Ly} {st st' : TH.St} {H H' : Hp}
/-- the fields' names are told apart -/
def FldOk (L : Lk) (nf f : Nat) : Prop := ∀ g, g < nf → L.fld g = L.fld f → g = f
theorem Flds.get {nf f : Nat} (hj : FldOk L nf f) {d : D} : ∀ {vs : List (Str × V)} {fs : List (Nat × D)}, Flds L ρ st H vs fs → fok nf fs = true → fget f fs = some d → ∃ v, vs.lookup (L.fld f) = some v ∧ Rep L ρ st H v d
  | _, _, .nil, _, e => by cases e
  | _, _, .cons (f := g) (v := v) (d := x) h1 h2, k, e => by
    unfold fok at k
    rw [List.all_cons, Bool.and_eq_true, decide_eq_true_eq] at k
    unfold fget at e
    by_cases hg : g = f
    · subst hg
      rw [if_pos rfl] at e
      cases e
      exact ⟨v, by rw [List.lookup_cons]; simp, h1⟩
    · rw [if_neg hg] at e
      have hne : (L.fld f == L.fld g) = false := by
        rw [beq_eq_false_iff_ne]
        exact fun z => hg (hj g k.1 z.symm)
      obtain ⟨w, z1, z2⟩ := Flds.get hj h2 k.2 e
      exact ⟨w, by rw [List.lookup_cons, hne]; exact z1, z2⟩
theorem Flds.put {nf f : Nat} (hj : FldOk L nf f) {y : V} {d : D} (r : Rep L ρ st H y d) : ∀ {vs : List (Str × V)} {fs : List (Nat × D)}, Flds L ρ st H vs fs → fok nf fs = true → Flds L ρ st H (putF (L.fld f) y vs) (fput f d fs)
  | _, _, .nil, _ => .cons r .nil
  | _, _, .cons (f := g) (v := v) (d := x) h1 h2, k => by
    unfold fok at k
    rw [List.all_cons, Bool.and_eq_true, decide_eq_true_eq] at k
    unfold fput putF
    by_cases hg : g = f
    · subst hg
      rw [if_pos rfl, if_pos rfl]
      exact .cons r h2
    · rw [if_neg hg, if_neg fun z => hg (hj g k.1 z)]
      exact .cons h1 (Flds.put hj r h2 k.2)
theorem Flds.no {nf : Nat} {m : Str} (hm : ∀ g, g < nf → L.fld g ≠ m) : ∀ {vs : List (Str × V)} {fs : List (Nat × D)}, Flds L ρ st H vs fs → fok nf fs = true → vs.lookup m = none
  | _, _, .nil, _ => rfl
  | _, _, .cons (f := g) (v := v) (d := x) h1 h2, k => by
    unfold fok at k
    rw [List.all_cons, Bool.and_eq_true, decide_eq_true_eq] at k
    rw [List.lookup_cons, show (m == L.fld g) = false from by rw [beq_eq_false_iff_ne]; exact fun z => hm g k.1 z.symm]
    exact Flds.no hm h2 k.2
theorem Flds.len : ∀ {vs : List (Str × V)} {fs : List (Nat × D)}, Flds L ρ st H vs fs → vs.length = fs.length
  | _, _, .nil => rfl
  | _, _, .cons _ h => by rw [List.length_cons, List.length_cons, Flds.len h]
end
section
variable {X : Cx} {L : Lk} {W : WX} {a b e o : Expr} {es : List Expr} {f g h : EM} {fa : AM} {pos p apos pos' : Pos}
/-! ### o.f -/
theorem de_fld {nf k : Nat} {ok : Nat → Bool} {m : Str} (hK : X.K = L.K) (hm : L.fld k = m) (hj : FldOk L nf k) (ho : ∀ c, ok c = true → Cls X.K (L.ca c) ∧ NoAttr X.K (L.ca c) m) (he : PE X o (wE L W f))
    (hb : attributeBase o m X.env (eval o X.env) = eval o X.env := by rfl) : PE X (.Attribute o m pos) (wE L W (xFld nf ok k f)) := by
  subst hm
  refine PE.imp (pe_fld he hb) ?_
  rintro σ H Q ⟨ρ, st, env, R, N, q⟩
  refine wE.mono ?_ (wE_bind R N q)
  rintro x H1 ⟨ρ1, st1, d1, e1, R1, N1, r1, q1⟩
  cases r1 with
  | @ref a n h1 =>
    simp only at q1
    cases hn : st1[n]? with
    | none => rw [hn] at q1; exact q1.elim
    | some ob =>
      rw [hn] at q1
      cases ob with
      | ins c fs =>
        simp only at q1
        by_cases hc : (ok c && fok nf fs) = true
        · rw [if_pos hc] at q1
          rw [Bool.and_eq_true] at hc
          obtain ⟨d, ed, q2⟩ := ofO_post q1
          obtain ⟨dx, vs, z1, z2⟩ := R1.ob n a _ h1 hn
          obtain ⟨v, y1, y2⟩ := z2.get hj hc.2 ed
          exact ⟨a, _, dx, vs, v, rfl, z1, (ho c hc.1).1, (ho c hc.1).2, y1, q2.here R1 v y2⟩
        · rw [if_neg hc] at q1; exact q1.elim
      | _ => exact q1.elim
  | _ => exact q1.elim
/-! ### o.f = e -/
theorem ds_fld {nf k : Nat} {ok : Nat → Bool} {m : Str} (hm : L.fld k = m) (hj : FldOk L nf k) (hc0 : ∀ c, ok c = true → Cls X.K (L.ca c) ∧ NoAttr X.K (L.ca c) m) (he : PE X e (wE L W h)) (ho : PE X o (wE L W f))
    (hs : swapsWith e (some (.Attribute o m pos')) pos.line X.env = pure false := by rfl) : PS X (.Assign [.Attribute o m pos'] e pos) (wS L W (sFld nf ok k f h)) := by
  subst hm
  refine PS.imp (ps_fld ho he hs) ?_
  rintro D σ H ⟨ρ, st, env, R, N, q⟩
  refine wE.mono ?_ (wE_bindS R N q)
  rintro v H1 ⟨ρ1, st1, d, e1, R1, N1, r1, q1⟩
  refine wE.mono ?_ (wE_bindS R1 N1 q1)
  rintro x H2 ⟨ρ2, st2, d2, e2, R2, N2, r2, q2⟩
  cases r2 with
  | @ref a n h1 =>
    simp only at q2
    cases hn : st2[n]? with
    | none => rw [hn] at q2; exact q2.elim
    | some ob =>
      rw [hn] at q2
      cases ob with
      | ins c fs =>
        simp only at q2
        by_cases hc : (ok c && fok nf fs && decide (fs.length < 900)) = true
        · rw [if_pos hc] at q2
          rw [Bool.and_eq_true, Bool.and_eq_true, decide_eq_true_eq] at hc
          obtain ⟨dx, vs, z1, z2⟩ := R2.ob n a _ h1 hn
          refine ⟨a, _, dx, vs, rfl, z1, (hc0 c hc.1.1).1, (hc0 c hc.1.1).2, by rw [z2.len]; omega, ?_⟩
          have ex := ext_set (o := .ins (L.ca c) dx (putF (L.fld k) v vs)) (ob := .ins c (fput k d fs)) R2 h1 hn (fun _ => Ob.noConfusion)
          have rv := Rep.ext (e2.trans ex) _ _ r1
          exact q2 ρ2 _ σ ex (rel_set R2 h1 hn (fun _ => Ob.noConfusion) ⟨dx, _, upd_same, (z2.ext ex).put hj rv hc.1.2⟩) (N2.ext ex)
        · rw [if_neg hc] at q2; exact q2.elim
      | _ => exact q2.elim
  | _ => exact q2.elim
/-! ### o.m(..) -/
/-- a method of a class, and what it promises -/
def MethAt (P : Program) (w : World) (K : PySem.W.Frag) (mg : Str → Option Value) (base : Heap) (L : Lk) (c : Calls) (k : Nat) (m : Str) (cl fi : Nat) : Prop :=
  ∃ (f : Addr) (fd : FuncData) (ps : List Str), Cls K (L.ca cl) ∧ Meth K (L.ca cl) m f ∧ FnOk P w K mg base (L2.CX P w) k f fd ps (spC L (c fi)) ∧ Binds K fd ps []
theorem de_meth {k nf : Nat} {c : Calls} {m : Str} {mt : Nat → Option Nat} {pl : Sem Bool} (tk : Takes X W) (hM : ∀ cl fi, mt cl = some fi → MethAt X.prog X.w X.K X.mg X.base L c k m cl fi) (hr : Room k X.A) (hf : ∀ g, g < nf → L.fld g ≠ m) (he : PE X o (wE L W f)) (ha : PA X (e :: es) (wA L W fa))
    (hst : starEach (e :: es) X.env = (false, eval e X.env) :: starEach es X.env := by rfl) (hpl : (backTo pos (starEach es X.env)).any (·.1) = false := by rfl)
    (ht : eval (.Call (.Attribute o m apos) (e :: es) [] pos) X.env = (do
      let ov ← eval o X.env
      standAt apos.atName
      let (f, first) ← holding [ov] (getMethod ov m pl)
      callWith pos f first (backTo pos (starEach (e :: es) X.env)) (backToKw pos (keywordEach [] X.env))) := by rfl) :
    PE X (.Call (.Attribute o m apos) (e :: es) [] pos) (wE L W (xMeth c mt nf f fa)) := by
  refine ⟨fun pins s σ H Q I q => ?_⟩
  obtain ⟨ρ, st, env, R, N, q⟩ := q
  refine PySem.W.methodCall_KW (pl := pl) (thn (he.run pins s σ H _ I (wE_bind R N q)) fun u s1 ⟨x, H1, I1, rx, ρ1, st1, d1, e1, R1, N1, r1, q1⟩ => ?_) ht
  cases r1 with
  | @ref a n h1 =>
    simp only at q1
    cases hn : st1[n]? with
    | none => rw [hn] at q1; exact q1.elim
    | some ob =>
      rw [hn] at q1
      cases ob with
      | ins cl fs =>
        simp only at q1
        cases hmt : mt cl with
        | none => rw [hmt] at q1; exact q1.elim
        | some fi =>
          rw [hmt] at q1
          simp only at q1
          by_cases hc : fok nf fs = true
          · rw [if_pos hc] at q1
            obtain ⟨fa', fd, ps, hC, hMe, F, hb⟩ := hM cl fi hmt
            obtain ⟨dx, vs, z1, z2⟩ := R1.ob n a _ h1 hn
            obtain rfl : u = Value.ref a := rx
            refine getmeth_ok I1 z1 hC hMe (z2.no hf hc) ?_
            refine PySem.W.callWith_K (first := [.ref a]) (h₀ := X.base) I.ok.mod.kin hMe.kp (thn (ha.run pos pins s1 σ H1 _ I1 (wA_bind R1 N1 q1)) fun us s2 ⟨ws, H2, I2, r, ρ2, st2, ds, e2, R2, N2, r2, q2⟩ => ⟨I2.kIn, ?_⟩) hst hpl
            refine run_fnS (us := .ref a :: us) (vs := .ref a :: ws) (E := WE W) F hr hb (passAt tk σ) I2 (.cons rfl r) ⟨ρ2, st2, .ref n :: ds, R2, .cons (.ref (e2.pre _ _ h1)) r2, ?_⟩
            exact PostR.wish (W := W) (σ := σ) q2 fun _ _ z => z
          · rw [if_neg hc] at q1; exact q1.elim
      | _ => exact q1.elim
  | _ => exact q1.elim
theorem de_meth0 {k nf : Nat} {c : Calls} {m : Str} {mt : Nat → Option Nat} {pl : Sem Bool} (tk : Takes X W) (hM : ∀ cl fi, mt cl = some fi → MethAt X.prog X.w X.K X.mg X.base L c k m cl fi) (hr : Room k X.A) (hf : ∀ g, g < nf → L.fld g ≠ m) (he : PE X o (wE L W f))
    (ht : eval (.Call (.Attribute o m apos) [] [] pos) X.env = (do
      let ov ← eval o X.env
      standAt apos.atName
      let (f, first) ← holding [ov] (getMethod ov m pl)
      callWith pos f first (backTo pos (starEach [] X.env)) (backToKw pos (keywordEach [] X.env))) := by rfl) :
    PE X (.Call (.Attribute o m apos) [] [] pos) (wE L W (xMeth c mt nf f aNil)) := by
  refine ⟨fun pins s σ H Q I q => ?_⟩
  obtain ⟨ρ, st, env, R, N, q⟩ := q
  refine PySem.W.methodCall_KW (pl := pl) (thn (he.run pins s σ H _ I (wE_bind R N q)) fun u s1 ⟨x, H1, I1, rx, ρ1, st1, d1, e1, R1, N1, r1, q1⟩ => ?_) ht
  cases r1 with
  | @ref a n h1 =>
    simp only at q1
    cases hn : st1[n]? with
    | none => rw [hn] at q1; exact q1.elim
    | some ob =>
      rw [hn] at q1
      cases ob with
      | ins cl fs =>
        simp only at q1
        cases hmt : mt cl with
        | none => rw [hmt] at q1; exact q1.elim
        | some fi =>
          rw [hmt] at q1
          simp only at q1
          by_cases hc : fok nf fs = true
          · rw [if_pos hc] at q1
            obtain ⟨fa', fd, ps, hC, hMe, F, hb⟩ := hM cl fi hmt
            obtain ⟨dx, vs, z1, z2⟩ := R1.ob n a _ h1 hn
            obtain rfl : u = Value.ref a := rx
            refine getmeth_ok I1 z1 hC hMe (z2.no hf hc) ?_
            refine PySem.W.callWith_K0 (first := [.ref a]) I1.kIn hMe.kp (run_fnS (us := [.ref a]) (vs := [.ref a]) (E := WE W) F hr hb (passAt tk σ) I1 (.cons rfl .nil) ⟨ρ1, st1, [.ref n], R1, .cons (.ref h1) .nil, ?_⟩)
            exact PostR.wish (W := W) (σ := σ) q1 fun _ _ z => z
          · rw [if_neg hc] at q1; exact q1.elim
      | _ => exact q1.elim
  | _ => exact q1.elim
/-! ### C(..) -/
/-- making one, in a body that may catch -/
theorem run_makeT {pins : List (Addr × Obj)} {σ : Sl} {H : Hp} {s : Shared} {Q : VK} {us : List Value} {vs : List V} {k : Nat} {C fa0 : Addr} {fd : FuncData} {ps : List Str} {sp : Sp} {E : Sl → XK} (M : Mk X.K C fa0)
    (F : FnOk X.prog X.w X.K X.mg X.base (L2.CX X.prog X.w) k fa0 fd ps sp) (hr : Room (k + 1) X.A) (hb : Binds X.K fd ps []) (hx : PassesAt (L2.CX X.prog X.w) X σ (E σ)) (I : L2.Inv X pins σ H s) (r : Vals vs us)
    (h : ∀ x dx, H x = none → H dx = none → dx ≠ x → sp (.ref x :: vs) (upd (upd H dx (.own x)) x (.ins C dx [])) (fun v H2 => v = .non ∧ Q (.ref x) H2) (E σ)) :
    wpAny (model X.prog X.w) X.A (call (.ref C) us) (EP X pins σ Q) X.xe s := by
  let p := s.heap.objs.size
  have hq := h (p + 1) p (I.hok.fresh (Nat.le_succ _)) (I.hok.fresh (Nat.le_refl _)) (Nat.ne_of_lt (Nat.lt_succ_self _))
  have J := L2.Inv.made (C := C) I
  have rr : Vals (V.ref (p + 1) :: vs) (Value.ref (p + 1) :: us) := .cons rfl r
  have hl : (Value.ref (p + 1) :: us).length = ps.length := by rw [← rr.length]; exact F.len _ _ _ _ hq
  have bd := hb _ (Value.ref (p + 1) :: us) J.kIn (by rw [List.append_nil]; exact hl)
  rw [List.append_nil] at bd
  have run := F.run _ X.stack _ _ ⟨Value.ref (p + 1) :: us, []⟩ _ _ _ (E σ) (hr.make C us []) (J.env0.make C us []) bd rr hq
  refine wpAny_call (make_map (f := fa0) I.kIn M.makes M.init (beq_iff_eq.mp M.fn) (codeAny_mono run fun r s' z => ?_))
  match r, z with
  | .error e, z => exact hx pins _ _ e s' J z
  | .ok (.ret u), z =>
    obtain ⟨v, H', J2, rv, ev, q3⟩ := J.after z
    subst ev
    exact ⟨rv, .ref (p + 1), H', J2, rfl, q3⟩
  | .ok .next, z => exact z.elim
  | .ok .brk, z => exact z.elim
  | .ok .cont, z => exact z.elim
/-- what the making of an instance joins to the store -/
theorem join_ins {ρ : Ly} {st : TH.St} {H : Hp} (R : Rel L ρ st H) {cl : Nat} {x dx : Addr} (hx : H x = none) (hd : H dx = none) (hne : dx ≠ x) :
    Ext ρ st H (ρ.add x) (st ++ [.ins cl []]) (upd (upd H dx (.own x)) x (.ins (L.ca cl) dx [])) ∧ Rel L (ρ.add x) (st ++ [.ins cl []]) (upd (upd H dx (.own x)) x (.ins (L.ca cl) dx [])) := by
  have R1 := rel_new (o := .own x) R hd
  have hx1 : upd H dx (.own x) x = none := by rw [upd_ne hne.symm]; exact hx
  exact ⟨(ext_new R hd).trans (ext_join R1 hx1), rel_join R1 hx1 ⟨dx, [], upd_same, .nil⟩⟩
theorem add_last {ρ : Ly} {st : TH.St} {H : Hp} (R : Rel L ρ st H) (x : Addr) : (ρ.add x).adr[st.length]? = some x := by
  show (ρ.adr ++ [x])[st.length]? = some x
  rw [← R.len, List.getElem?_append_right (Nat.le_refl _)]; simp
theorem de_make {k cl fi : Nat} {c : Calls} {fa0 : Addr} {fd : FuncData} {ps : List Str} {x : Str} (tk : Takes X W) (M : Mk X.K (L.ca cl) fa0) (F : FnOk X.prog X.w X.K X.mg X.base (L2.CX X.prog X.w) k fa0 fd ps (spC L (c fi))) (hr : Room (k + 1) X.A)
    (hm : X.mg x = some (.ref (L.ca cl))) (hb : Binds X.K fd ps []) (ha : PA X (e :: es) (wA L W fa)) (hg : Gl X x := by rfl) (hdb : (x == ("__debug__" : Str)) = false := by decide)
    (he : starEach (e :: es) X.env = (false, eval e X.env) :: starEach es X.env := by rfl) (hpl : (backTo pos (starEach es X.env)).any (·.1) = false := by rfl) :
    PE X (.Call (.Name x p) (e :: es) [] pos) (wE L W (xMake c cl fi fa)) := by
  refine ⟨fun pins s σ H Q I q => ?_⟩
  obtain ⟨ρ, st, env, R, N, q⟩ := q
  refine wpAny_Call_Name_kw (ld_glob I hg hm ?_ hdb)
  refine PySem.W.callWith_K (h₀ := X.base) I.ok.mod.kin M.kp (thn (ha.run pos pins s σ H _ I (wA_bind R N q)) fun us s1 ⟨vs, H1, I1, r, ρ1, st1, ds, e1, R1, N1, r1, q1⟩ => ⟨I1.kIn, ?_⟩) he hpl
  refine run_makeT (E := WE W) M F hr hb (passAt tk σ) I1 r fun y dx hy hd hne => ?_
  obtain ⟨ex, R2⟩ := join_ins (cl := cl) R1 hy hd hne
  refine ⟨ρ1.add y, _, .ref st1.length :: ds, R2, .cons (.ref (add_last R1 y)) (Reps.ext ex _ _ r1), ?_⟩
  refine PostR.wish (W := W) (σ := σ) (PostR.mono ?_ (PostR.bind (PostR.ext q1 ex))) fun _ _ z => z
  rintro d ρ' st' H' e' R' ⟨_, _, q2⟩ v rv
  cases d with
  | non =>
    cases rv
    exact ⟨rfl, q2.here R' _ (.ref (e'.pre _ _ (add_last R1 y)))⟩
  | _ => exact q2.elim
theorem de_make0 {k cl fi : Nat} {c : Calls} {fa0 : Addr} {fd : FuncData} {ps : List Str} {x : Str} (tk : Takes X W) (M : Mk X.K (L.ca cl) fa0) (F : FnOk X.prog X.w X.K X.mg X.base (L2.CX X.prog X.w) k fa0 fd ps (spC L (c fi))) (hr : Room (k + 1) X.A)
    (hm : X.mg x = some (.ref (L.ca cl))) (hb : Binds X.K fd ps []) (hg : Gl X x := by rfl) (hdb : (x == ("__debug__" : Str)) = false := by decide) :
    PE X (.Call (.Name x p) [] [] pos) (wE L W (xMake c cl fi aNil)) := by
  refine ⟨fun pins s σ H Q I q => ?_⟩
  obtain ⟨ρ1, st1, env, R1, N, q1⟩ := q
  refine wpAny_Call_Name_kw (ld_glob I hg hm ?_ hdb)
  refine PySem.W.callWith_K0 I.kIn M.kp (run_makeT (us := []) (vs := []) (E := WE W) M F hr hb (passAt tk σ) I .nil fun y dx hy hd hne => ?_)
  obtain ⟨ex, R2⟩ := join_ins (cl := cl) R1 hy hd hne
  refine ⟨ρ1.add y, _, [.ref st1.length], R2, .cons (.ref (add_last R1 y)) .nil, ?_⟩
  have q1 : PostR L W σ (fE L Q) ρ1 st1 H ((c fi [.ref st1.length] (st1 ++ [.ins cl []])).bind fun d st' => match d with
    | .non => .ok (.ref st1.length) st'
    | _ => .stuck) := q1
  refine PostR.wish (W := W) (σ := σ) (PostR.mono ?_ (PostR.bind (PostR.ext q1 ex))) fun _ _ z => z
  rintro d ρ' st' H' e' R' ⟨_, _, q2⟩ v rv
  cases d with
  | non =>
    cases rv
    exact ⟨rfl, q2.here R' _ (.ref (e'.pre _ _ (add_last R1 y)))⟩
  | _ => exact q2.elim
end
end TH
namespace TH
open PySem L2 TL
section
variable {X : Cx} {L : Lk} {W : WX} {e o : Expr} {f g : EM} {pos apos : Pos}
/-! ### xs.remove(y) -/
theorem ints_rep {ρ : Ly} {st : TH.St} {H : Hp} : ∀ {l : List D} {is : List Int} {xs : List V}, intsOf l = some is → Reps L ρ st H xs l → xs = is.map V.int
  | [], is, xs, e, r => by cases e; cases r; rfl
  | d :: l, is, xs, e, r => by
    cases d with
    | int i =>
      obtain ⟨is', h, rfl⟩ := Option.map_eq_some_iff.mp e
      cases r with
      | cons h1 h2 => cases h1; rw [ints_rep h h2]; rfl
    | _ => cases e
theorem rep_ints {ρ : Ly} {st : TH.St} {H : Hp} : ∀ is : List Int, Reps L ρ st H (is.map V.int) (is.map D.int)
  | [] => .nil
  | i :: is => .cons (.int i) (rep_ints is)
theorem erase_at (k : Int) : ∀ is : List Int, is.contains k = true → ∃ j, is[j]? = some k ∧ (∀ m : Nat, m < j → is[m]? ≠ some k) ∧ is.erase k = is.eraseIdx j
  | [], h => by cases h
  | i :: is, h => by
    by_cases e : i = k
    · subst e
      exact ⟨0, rfl, fun m hm => absurd hm (Nat.not_lt_zero _), by simp⟩
    · have h' : is.contains k = true := by
        rw [List.contains_cons, Bool.or_eq_true, beq_iff_eq] at h
        exact h.resolve_left fun z => e z.symm
      obtain ⟨j, h1, h2, h3⟩ := erase_at k is h'
      refine ⟨j + 1, h1, fun m hm => ?_, ?_⟩
      · cases m with
        | zero => simpa using e
        | succ m => exact h2 m (by omega)
      · rw [List.erase_cons_tail (by simpa using e), h3]; rfl
theorem de_rem (hK : X.K = L.K) (ho : PE X o (wE L W f)) (he : PE X e (wE L W g))
    (hbase : attributeBase o "remove" X.env (eval o X.env) = eval o X.env := by rfl) (hfew : ((backTo pos (starEach [e] X.env)).all (fun x => !x.1) && (backToKw pos (keywordEach [] X.env)).all (fun x => x.1.isSome)
      && decide (([e] : List Expr).length + ([] : List Keyword).length + (if ([] : List Keyword).isEmpty then 0 else 1) < 30)) = true := by rfl)
    (hline : (apos.endLine == pos.line) = true := by rfl) (hs : starEach [e] X.env = (false, eval e X.env) :: starEach [] X.env := by rfl) (hplain : (backTo pos (starEach [] X.env)).any (·.1) = false := by rfl) :
    PE X (.Call (.Attribute o "remove" apos) [e] [] pos) (wE L W (xRem f g)) := by
  refine PE.imp (L2.pe_bm PySem.F.plainAttrs_list PySem.F.slot_list_remove PySem.F.type_list_remove mt_remove ho (da_cons he da_nil hs) hbase hfew hline hs hplain) ?_
  rintro σ H Q ⟨ρ, st, env, R, N, q⟩
  refine wE.mono ?_ (wE_bind R N q)
  rintro x H1 ⟨ρ1, st1, d1, e1, R1, N1, r1, q1⟩
  by_cases ht : isLst d1 st1 = true
  · rw [if_pos ht] at q1
    refine ⟨by rw [hK]; exact lst_ty R1 r1 ht, ρ1, st1, env, R1, N1, ?_⟩
    have z := PostR.bind q1
    unfold aCons
    cases eg : g env st1 with
    | ok d2 st2 =>
      rw [eg] at z
      intro ρ' H' x' R' vs rs
      obtain ⟨e2, R2, q2⟩ := z ρ' H' x' R'
      obtain ⟨y, rfl, r2⟩ := reps1 rs
      cases r1 with
      | @ref a n h1 =>
        cases d2 with
        | int k =>
          cases r2
          simp only at q2
          cases hn : st2[n]? with
          | none => rw [hn] at q2; exact q2.elim
          | some ob =>
            rw [hn] at q2
            cases ob with
            | ml l =>
              simp only at q2
              cases hi : intsOf l with
              | none => rw [hi] at q2; exact q2.elim
              | some is =>
                rw [hi] at q2
                have ha := x'.pre _ _ h1
                obtain ⟨xs, z1, z2⟩ := R2.ob n a _ ha hn
                by_cases hl : is.contains k = true
                · simp only [if_pos hl] at q2
                  obtain ⟨j, j1, j2, j3⟩ := erase_at k is hl
                  rw [ints_rep hi z2] at z1
                  refine ⟨a, is, k, j, rfl, rfl, z1, j1, j2, ?_⟩
                  rw [← j3]
                  have ex := ext_set (o := .lst ((is.erase k).map V.int)) (ob := .ml ((is.erase k).map D.int)) R2 ha hn (fun _ => Ob.noConfusion)
                  exact q2 ρ' _ ex (rel_set R2 ha hn (fun _ => Ob.noConfusion) ⟨_, upd_same, rep_ints _⟩) _ .non
                · simp only [if_neg hl] at q2; exact q2.elim
            | _ => exact q2.elim
        | _ => exact q2.elim
      | _ => exact q2.elim
    | exn c st2 => rw [eg] at z; exact z
    | stuck => rw [eg] at z; exact z
  · rw [if_neg ht] at q1; exact q1.elim
end
/-- a statement in a class's body -/
def inCls (s : Stmt) (j : Nat) : Stmt := match s with
  | .ClassDef _ _ _ b .. => b.getD j (.Pass ⟨0, 0, 0, 0⟩)
  | _ => s
end TH
end
section
set_option linter.all false
/-! P_k31: the program as combinators (printed by gen.py). -/
namespace TH.k31
open TH
def ok_numbers : Nat → Bool
  | 0 => true
  | _ => false
def mt_took : Nat → Option Nat
  | 0 => some 1
  | _ => none
def B_Taker___init__ (c : Calls) : SM := sFld 1 ok_numbers 0 (xVar 0) (xMut (lLst (aNil)))
def B_Taker_took (c : Calls) : SM := sSeq (sIf (xBin oEq (xBin oIx (xVar 1) (xC (.int 0))) (xC (.str [102, 114, 101, 101]))) (sSeq (sFld 1 ok_numbers 0 (xVar 0) (xMut (lComp (iVal (xFld 1 ok_numbers 0 (xVar 0))) (.name 3) (some (xBin oNe (xVar 3) (xBin oIx (xVar 1) (xC (.int 1))))) (xVar 3) [3])))
    (sRet (xTup (aCons (xLst (lLst (aCons (xTup (aCons (xC (.str [100, 111, 110, 101])) (aCons (xBin oIx (xVar 1) (xC (.int 1))) (aNil)))) (aNil)))) (aCons (xLst (lLst (aNil))) (aNil)))))) (sSkip))
    (sSeq (sSet 2 (xSl (xVar 1) (some (xC (.int 1))) (some (xC (.int 5)))))
    (sSeq (sIf (xBin oEq (xBin oIx (xVar 1) (xC (.int 3))) (xC (.int 0))) (sRet (xTup (aCons (xLst (lLst (aNil))) (aCons (xLst (lLst (aCons (xVar 2) (aNil)))) (aNil))))) (sSkip))
    (sSeq (sIf (xBin oEq (xBin oIx (xVar 1) (xC (.int 3))) (xC (.int 1))) (sRet (xTup (aCons (xLst (lLst (aCons (xTup (aCons (xC (.str [103, 111, 116])) (aCons (xBin oIx (xVar 1) (xC (.int 6))) (aNil)))) (aNil)))) (aCons (xLst (lLst (aCons (xVar 2) (aNil)))) (aNil))))) (sSkip))
    (sSeq (sIf (xBin oIn (xBin oIx (xVar 1) (xC (.int 6))) (xFld 1 ok_numbers 0 (xVar 0))) (sRet (xTup (aCons (xLst (lLst (aCons (xTup (aCons (xC (.str [104, 101, 108, 100])) (aCons (xBin oIx (xVar 1) (xC (.int 6))) (aNil)))) (aNil)))) (aCons (xLst (lLst (aNil))) (aNil))))) (sSkip))
    (sSeq (sExpr (xApp (xFld 1 ok_numbers 0 (xVar 0)) (xBin oIx (xVar 1) (xC (.int 6)))))
    (sRet (xTup (aCons (xLst (lLst (aCons (xTup (aCons (xC (.str [104, 101, 108, 100])) (aCons (xBin oIx (xVar 1) (xC (.int 6))) (aNil)))) (aNil)))) (aCons (xLst (lLst (aCons (xVar 2) (aNil)))) (aNil))))))))))
def B__law_cell (c : Calls) : SM := sSeq (sIf (xVar 0) (sRet (xBin oIx (xVar 0) (xBin oMod (xVar 1) (xB bLen (aCons (xVar 0) (aNil)))))) (sSkip))
    (sRet (xC (.int 0)))
def B__law_mix (c : Calls) : SM := sSeq (sSet 2 (xBin oMod (xBin oAdd (xCall c 2 (aCons (xVar 0) (aCons (xVar 1) (aNil)))) (xBin oMul (xC (.int 104729)) (xBin oAdd (xVar 1) (xC (.int 1))))) (xC (.int 4294967291))))
    (sSeq (sSet 2 (xBin oMod (xBin oPow (xVar 2) (xC (.int 5))) (xC (.int 4294967279))))
    (sRet (xBin oMod (xBin oAdd (xBin oMul (xBin oDiv (xVar 2) (xC (.int 64))) (xC (.int 69621))) (xVar 2)) (xC (.int 4294967231)))))
def B__law_draw (c : Calls) : SM := sSeq (sExpr (xApp (xVar 1) (xC (.int 0))))
    (sRet (xBin oMod (xBin oDiv (xCall c 3 (aCons (xVar 0) (aCons (xB bLen (aCons (xVar 1) (aNil))) (aNil)))) (xC (.int 8))) (xVar 2)))
def B__law_pick (c : Calls) : SM := sRet (xBin oIx (xVar 2) (xCall c 4 (aCons (xVar 0) (aCons (xVar 1) (aCons (xB bLen (aCons (xVar 2) (aNil))) (aNil))))))
def B__law_small (c : Calls) : SM := sSeq (sSet 2 (xCall c 5 (aCons (xVar 0) (aCons (xVar 1) (aCons (xLst (lLst (aCons (xC (.str [])) (aCons (xC (.str [120])) (aCons (xC (.str [121, 32, 122])) (aCons (xC (.str [35])) (aCons (xC (.str [108, 97, 115, 116])) (aNil)))))))) (aNil))))))
    (sSeq (sSet 3 (xCall c 5 (aCons (xVar 0) (aCons (xVar 1) (aCons (xLst (lLst (aCons (xC (.str [97])) (aCons (xC (.str [97, 47, 98])) (aCons (xC (.str [36, 115])) (aCons (xC (.str [47])) (aCons (xC (.str [98, 47, 47, 99])) (aNil)))))))) (aNil))))))
    (sRet (xTup (aCons (xVar 3) (aCons (xVar 2) (aCons (xCall c 4 (aCons (xVar 0) (aCons (xVar 1) (aCons (xC (.int 3)) (aNil))))) (aCons (xBin oEq (xCall c 4 (aCons (xVar 0) (aCons (xVar 1) (aCons (xC (.int 2)) (aNil))))) (xC (.int 0))) (aNil))))))))
def B__law_due (c : Calls) : SM := sSeq (sSet 2 (xBin oIx (xVar 0) (xNeg (xC (.int 1)))))
    (sSeq (sIf (xBin oEq (xBin oIx (xVar 0) (xC (.int 0))) (xC (.str [102, 114, 101, 101]))) (sSeq (sIf (xBin oIn (xVar 2) (xVar 1)) (sExpr (xRem (xVar 1) (xVar 2))) (sSkip))
    (sRet (xTup (aCons (xLst (lLst (aCons (xTup (aCons (xC (.str [100, 111, 110, 101])) (aCons (xVar 2) (aNil)))) (aNil)))) (aCons (xLst (lLst (aNil))) (aNil)))))) (sSkip))
    (sSeq (sSet 3 (xTup (aCons (xBin oIx (xVar 0) (xC (.int 1))) (aCons (xBin oIx (xVar 0) (xC (.int 2))) (aCons (xBin oIx (xVar 0) (xC (.int 3))) (aCons (xBin oIx (xVar 0) (xC (.int 4))) (aNil)))))))
    (sSeq (sIf (xBin oEq (xBin oIx (xVar 0) (xC (.int 3))) (xC (.int 2))) (sSeq (sIf (xBin oIn (xVar 2) (xVar 1)) (sRet (xTup (aCons (xLst (lLst (aCons (xTup (aCons (xC (.str [104, 101, 108, 100])) (aCons (xVar 2) (aNil)))) (aNil)))) (aCons (xLst (lLst (aNil))) (aNil))))) (sSkip))
    (sSeq (sExpr (xApp (xVar 1) (xVar 2)))
    (sRet (xTup (aCons (xLst (lLst (aCons (xTup (aCons (xC (.str [104, 101, 108, 100])) (aCons (xVar 2) (aNil)))) (aNil)))) (aCons (xLst (lLst (aCons (xVar 3) (aNil)))) (aNil))))))) (sSkip))
    (sRet (xTup (aCons (xIf (xBin oEq (xBin oIx (xVar 0) (xC (.int 3))) (xC (.int 1))) (xLst (lLst (aCons (xTup (aCons (xC (.str [103, 111, 116])) (aCons (xVar 2) (aNil)))) (aNil)))) (xLst (lLst (aNil)))) (aCons (xLst (lLst (aCons (xVar 3) (aNil)))) (aNil))))))))
def B_law (c : Calls) : SM := sSeq (sSet 1 (xMut (lLst (aNil))))
    (sSeq (sSet 2 (xLst (lLst (aCons (xMake c 0 0 aNil) (aCons (xMake c 0 0 aNil) (aNil))))))
    (sSeq (sSet 3 (xMut (lLst (aCons (xMut (lLst (aNil))) (aCons (xMut (lLst (aNil))) (aNil))))))
    (sSeq (sFor (iRng1 (xCall c 4 (aCons (xVar 0) (aCons (xVar 1) (aCons (xC (.int 41)) (aNil)))))) (.name 4) (sSeq (sSet 5 (xCall c 5 (aCons (xVar 0) (aCons (xVar 1) (aCons (xLst (lLst (aCons (xC (.int 0)) (aCons (xC (.int 0)) (aCons (xC (.int 1)) (aNil)))))) (aNil))))))
    (sSeq (sSet 6 (xCall c 5 (aCons (xVar 0) (aCons (xVar 1) (aCons (xLst (lLst (aCons (xC (.int 1)) (aCons (xC (.int 2)) (aCons (xC (.int 3)) (aCons (xC (.int 4)) (aCons (xC (.int 65535)) (aNil)))))))) (aNil))))))
    (sSeq (sIf (xBin oEq (xCall c 4 (aCons (xVar 0) (aCons (xVar 1) (aCons (xC (.int 3)) (aNil))))) (xC (.int 0))) (sSet 8 (xTup (aCons (xC (.str [102, 114, 101, 101])) (aCons (xVar 6) (aNil))))) (sSeq (sSet 9 (xCall c 6 (aCons (xVar 0) (aCons (xVar 1) (aNil)))))
    (sSeq (sSet 10 (xAnd (xBin oGt (xBin oIx (xVar 9) (xC (.int 2))) (xC (.int 0))) (xBin oEq (xCall c 4 (aCons (xVar 0) (aCons (xVar 1) (aCons (xC (.int 2)) (aNil))))) (xC (.int 0)))))
    (sSet 8 (xBin oAdd (xBin oAdd (xTup (aCons (xC (.str [115, 97, 121])) (aNil))) (xVar 9)) (xTup (aCons (xVar 10) (aCons (xIf (xBin oGt (xBin oIx (xVar 9) (xC (.int 2))) (xC (.int 0))) (xVar 6) (xC (.int 0))) (aNil)))))))))
    (sSeq (sSet 7 (xMeth c mt_took 1 (xBin oIx (xVar 2) (xVar 5)) (aCons (xVar 8) (aNil))))
    (sIf (xOr (xNot (xIsi (isiT 4) (xVar 7))) (xBin oNe (xVar 7) (xCall c 7 (aCons (xVar 8) (aCons (xBin oIx (xVar 3) (xVar 5)) (aNil)))))) (sRet (xC (.bl false))) (sSkip)))))))
    (sRet (xC (.bl true))))))
def bodies (c : Calls) : Nat → List D → St → RE
  | 0 => body 1 1 (B_Taker___init__ c)
  | 1 => body 2 4 (B_Taker_took c)
  | 2 => body 2 2 (B__law_cell c)
  | 3 => body 2 3 (B__law_mix c)
  | 4 => body 3 3 (B__law_draw c)
  | 5 => body 3 3 (B__law_pick c)
  | 6 => body 2 4 (B__law_small c)
  | 7 => body 2 4 (B__law_due c)
  | 8 => body 1 11 (B_law c)
  | _ => fun _ _ => .stuck
def run : Nat → Calls
  | 0 => fun _ _ _ => .stuck
  | k + 1 => bodies (run k)
end TH.k31
end
section
set_option Elab.async false
set_option linter.all false
set_option autoImplicit false
set_option maxRecDepth 100000
set_option maxHeartbeats 4000000
/-! W_k31: each def keeps what its combinators say (printed by gen.py). -/
namespace TH.k31
open PySem L2 TL PyProof.Rows TH
def top (i : Nat) : Stmt := PySem.Challenge.pw_tidinghall_k31_whole_taker.main.body.getD i (.Pass ⟨0, 0, 0, 0⟩)
def fldT : Nat → Str
  | 0 => "numbers"
  | _ => ""
abbrev L0 (K : PySem.W.Frag) (cA : Nat → Addr) : Lk := ⟨K, cA, fldT⟩
theorem fj_0 : ∀ g, g < 1 → fldT g = fldT 0 → g = 0 := by decide +kernel
theorem nm_took : ∀ g, g < 1 → fldT g ≠ "took" := by decide +kernel
abbrev s_Taker___init__ : Stmt := inCls (top 1) 0
abbrev N_Taker___init__ : List Str := ["self"]
abbrev ps_Taker___init__ : List Str := ["self"]
abbrev s_Taker_took : Stmt := inCls (top 1) 1
abbrev N_Taker_took : List Str := ["self", "packet", "tiding", "number"]
abbrev ps_Taker_took : List Str := ["self", "packet"]
abbrev s__law_cell : Stmt := top 3
abbrev N__law_cell : List Str := ["_law_script", "_law_k"]
abbrev ps__law_cell : List Str := ["_law_script", "_law_k"]
abbrev s__law_mix : Stmt := top 4
abbrev N__law_mix : List Str := ["_law_script", "_law_k", "_law_number"]
abbrev ps__law_mix : List Str := ["_law_script", "_law_k"]
abbrev s__law_draw : Stmt := top 5
abbrev N__law_draw : List Str := ["_law_script", "_law_town", "_law_many"]
abbrev ps__law_draw : List Str := ["_law_script", "_law_town", "_law_many"]
abbrev s__law_pick : Stmt := top 6
abbrev N__law_pick : List Str := ["_law_script", "_law_town", "_law_some"]
abbrev ps__law_pick : List Str := ["_law_script", "_law_town", "_law_some"]
abbrev s__law_small : Stmt := top 7
abbrev N__law_small : List Str := ["_law_script", "_law_town", "_law_body", "_law_name"]
abbrev ps__law_small : List Str := ["_law_script", "_law_town"]
abbrev s__law_due : Stmt := top 8
abbrev N__law_due : List Str := ["_law_packet", "_law_ids", "_law_number", "_law_tiding"]
abbrev ps__law_due : List Str := ["_law_packet", "_law_ids"]
abbrev s_law : Stmt := top 9
abbrev N_law : List Str := ["_law_script", "_law_town", "_law_takers", "_law_ids", "_law_k", "_law_at", "_law_number", "_law_found", "_law_packet", "_law_tiding", "_law_again"]
abbrev ps_law : List Str := ["_law_script"]
structure Txt (K : PySem.W.Frag) (mg : Str → Option Value) (fA : Nat → Addr) (fD : Nat → FuncData) (cA : Nat → Addr) : Prop where
  F_Taker___init__ : Fun K "__init__" "Taker.__init__" s_Taker___init__ (fA 0) (fD 0)
  b_Taker___init__ : Binds K (fD 0) ps_Taker___init__ []
  I_Taker : Mk K (cA 0) (fA 0)
  F_Taker_took : Fun K "took" "Taker.took" s_Taker_took (fA 1) (fD 1)
  b_Taker_took : Binds K (fD 1) ps_Taker_took []
  M_Taker_took : Meth K (cA 0) "took" (fA 1)
  F__law_cell : Fun K "_law_cell" "_law_cell" s__law_cell (fA 2) (fD 2)
  b__law_cell : Binds K (fD 2) ps__law_cell []
  m__law_cell : mg "_law_cell" = some (.ref (fA 2))
  k__law_cell : PySem.W.keepIn K (.ref (fA 2)) = true
  F__law_mix : Fun K "_law_mix" "_law_mix" s__law_mix (fA 3) (fD 3)
  b__law_mix : Binds K (fD 3) ps__law_mix []
  m__law_mix : mg "_law_mix" = some (.ref (fA 3))
  k__law_mix : PySem.W.keepIn K (.ref (fA 3)) = true
  F__law_draw : Fun K "_law_draw" "_law_draw" s__law_draw (fA 4) (fD 4)
  b__law_draw : Binds K (fD 4) ps__law_draw []
  m__law_draw : mg "_law_draw" = some (.ref (fA 4))
  k__law_draw : PySem.W.keepIn K (.ref (fA 4)) = true
  F__law_pick : Fun K "_law_pick" "_law_pick" s__law_pick (fA 5) (fD 5)
  b__law_pick : Binds K (fD 5) ps__law_pick []
  m__law_pick : mg "_law_pick" = some (.ref (fA 5))
  k__law_pick : PySem.W.keepIn K (.ref (fA 5)) = true
  F__law_small : Fun K "_law_small" "_law_small" s__law_small (fA 6) (fD 6)
  b__law_small : Binds K (fD 6) ps__law_small []
  m__law_small : mg "_law_small" = some (.ref (fA 6))
  k__law_small : PySem.W.keepIn K (.ref (fA 6)) = true
  F__law_due : Fun K "_law_due" "_law_due" s__law_due (fA 7) (fD 7)
  b__law_due : Binds K (fD 7) ps__law_due []
  m__law_due : mg "_law_due" = some (.ref (fA 7))
  k__law_due : PySem.W.keepIn K (.ref (fA 7)) = true
  F_law : Fun K "law" "law" s_law (fA 8) (fD 8)
  b_law : Binds K (fD 8) ps_law []
  m_law : mg "law" = some (.ref (fA 8))
  k_law : PySem.W.keepIn K (.ref (fA 8)) = true
  C_Taker : Cls K (cA 0)
  x_Taker : mg "Taker" = some (.ref (cA 0))
  A_Taker_numbers : NoAttr K (cA 0) "numbers"
  z_isinstance : mg "isinstance" = none
  z_len : mg "len" = none
  z_range : mg "range" = none
  z_tuple : mg "tuple" = none
section
variable {P : Program} {w : World} {K : PySem.W.Frag} {mg : Str → Option Value} {base : Heap} {fA cA : Nat → Addr} {fD : Nat → FuncData}
structure Oks (P : Program) (w : World) (K : PySem.W.Frag) (mg : Str → Option Value) (base : Heap) (fA cA : Nat → Addr) (fD : Nat → FuncData) (k : Nat) : Prop where
  o_Taker___init__ : FnOk P w K mg base (L2.CX P w) (2 * k) (fA 0) (fD 0) ps_Taker___init__ (spC (L0 K cA) (run k 0))
  o_Taker_took : FnOk P w K mg base (L2.CX P w) (2 * k) (fA 1) (fD 1) ps_Taker_took (spC (L0 K cA) (run k 1))
  o__law_cell : FnOk P w K mg base (L2.CX P w) (2 * k) (fA 2) (fD 2) ps__law_cell (spC (L0 K cA) (run k 2))
  o__law_mix : FnOk P w K mg base (L2.CX P w) (2 * k) (fA 3) (fD 3) ps__law_mix (spC (L0 K cA) (run k 3))
  o__law_draw : FnOk P w K mg base (L2.CX P w) (2 * k) (fA 4) (fD 4) ps__law_draw (spC (L0 K cA) (run k 4))
  o__law_pick : FnOk P w K mg base (L2.CX P w) (2 * k) (fA 5) (fD 5) ps__law_pick (spC (L0 K cA) (run k 5))
  o__law_small : FnOk P w K mg base (L2.CX P w) (2 * k) (fA 6) (fD 6) ps__law_small (spC (L0 K cA) (run k 6))
  o__law_due : FnOk P w K mg base (L2.CX P w) (2 * k) (fA 7) (fD 7) ps__law_due (spC (L0 K cA) (run k 7))
  o_law : FnOk P w K mg base (L2.CX P w) (2 * k) (fA 8) (fD 8) ps_law (spC (L0 K cA) (run k 8))
theorem okf_numbers (T : Txt K mg fA fD cA) : ∀ c, ok_numbers c = true → Cls K (cA c) ∧ NoAttr K (cA c) "numbers" := by
  intro c h
  unfold ok_numbers at h
  split at h
  · exact ⟨T.C_Taker, T.A_Taker_numbers⟩
  · cases h
theorem mth_took {k : Nat} (T : Txt K mg fA fD cA) (I : Oks P w K mg base fA cA fD k) : ∀ cl fi, mt_took cl = some fi → MethAt P w K mg base (L0 K cA) (run k) (2 * k) "took" cl fi := by
  intro cl fi h
  unfold mt_took at h
  split at h
  · cases h; exact ⟨_, _, _, T.C_Taker, T.M_Taker_took, I.o_Taker_took, T.b_Taker_took⟩
  · cases h
theorem sc_Taker___init__ : FnScope N_Taker___init__ ps_Taker___init__ (defScope s_Taker___init__) := ⟨rfl, rfl, rfl, by decide +kernel, rfl, by decide +kernel, by decide +kernel⟩
theorem ok_Taker___init__ {k : Nat} (T : Txt K mg fA fD cA) (I : Oks P w K mg base fA cA fD k) : FnOk P w K mg base (L2.CX P w) (2 * (k + 1)) (fA 0) (fD 0) ps_Taker___init__ (spC (L0 K cA) (run (k + 1) 0)) := by
  refine fn_ok (k := 2 * k + 1) (n := 1) (sl := 1) (sm := B_Taker___init__ (run k)) T.F_Taker___init__ sc_Taker___init__ rfl rfl fun cdv A outer s H E hr => ?_
  have hr0 := hr.mono (show 2 * k ≤ 2 * k + 1 by omega)
  have hu := hr.units
  have hu5 := units65 hr
  have nd := sc_Taker___init__.nd
  exact (ds_one (ds_fld (L := L0 K cA) (k := 0) rfl fj_0 (okf_numbers T) (de_mut (dl_lst da_nil)) (de_var (i := 0))))
theorem sc_Taker_took : FnScope N_Taker_took ps_Taker_took (defScope s_Taker_took) := ⟨rfl, rfl, rfl, by decide +kernel, rfl, by decide +kernel, by decide +kernel⟩
theorem ok_Taker_took {k : Nat} (T : Txt K mg fA fD cA) (I : Oks P w K mg base fA cA fD k) : FnOk P w K mg base (L2.CX P w) (2 * (k + 1)) (fA 1) (fD 1) ps_Taker_took (spC (L0 K cA) (run (k + 1) 1)) := by
  refine fn_ok (k := 2 * k + 1) (n := 2) (sl := 4) (sm := B_Taker_took (run k)) T.F_Taker_took sc_Taker_took rfl rfl fun cdv A outer s H E hr => ?_
  have hr0 := hr.mono (show 2 * k ≤ 2 * k + 1 by omega)
  have hu := hr.units
  have hu5 := units65 hr
  have nd := sc_Taker_took.nd
  exact (ds_cons (ds_if (dt_cmp (fun _ _ _ _ h => bl_eq h) (op_eqV rfl hu) (de_ix (op_ixV rfl) (de_var (i := 1)) de_int) de_str) (ds_cons (ds_fld (L := L0 K cA) (k := 0) rfl fj_0 (okf_numbers T) (de_mut (dl_comp rfl nd (blkOk_by (N := N_Taker_took) (sc := defScope s_Taker_took) (own := [("number", 3)]) (by decide +kernel)) (di_val rfl (de_fld (L := L0 K cA) (k := 0) rfl rfl fj_0 (okf_numbers T) (de_var (i := 0)))) (fun _ _ _ _ _ => (dg_name (i := 3) nd)) (fun _ _ _ _ _ => (dts_one (dt_cmp (fun _ _ _ _ h => bl_ne h) (op_neV rfl hu) (de_var (i := 3)) (de_ix (op_ixV rfl) (de_var (i := 1)) de_int)))) (fun _ _ _ _ _ => (de_var (i := 3))))) (de_var (i := 0)))
    (ds_one (ds_ret (de_tup (da_cons (de_new (dl_lst (da_cons (de_tup (da_cons de_str (da_cons (de_ix (op_ixV rfl) (de_var (i := 1)) de_int) da_nil))) da_nil))) (da_cons (de_new (dl_lst da_nil)) da_nil)))))) ds_nil)
    (ds_cons (ds_set (i := 2) nd (de_sl rfl (de_var (i := 1)) (dp_some de_int) (dp_some de_int)))
    (ds_cons (ds_if (dt_cmp (fun _ _ _ _ h => bl_eq h) (op_eqV rfl hu) (de_ix (op_ixV rfl) (de_var (i := 1)) de_int) de_int) (ds_one (ds_ret (de_tup (da_cons (de_new (dl_lst da_nil)) (da_cons (de_new (dl_lst (da_cons (de_var (i := 2)) da_nil))) da_nil))))) ds_nil)
    (ds_cons (ds_if (dt_cmp (fun _ _ _ _ h => bl_eq h) (op_eqV rfl hu) (de_ix (op_ixV rfl) (de_var (i := 1)) de_int) de_int) (ds_one (ds_ret (de_tup (da_cons (de_new (dl_lst (da_cons (de_tup (da_cons de_str (da_cons (de_ix (op_ixV rfl) (de_var (i := 1)) de_int) da_nil))) da_nil))) (da_cons (de_new (dl_lst (da_cons (de_var (i := 2)) da_nil))) da_nil))))) ds_nil)
    (ds_cons (ds_if (dt_cmp (fun _ _ _ _ h => bl_in h) (op_inV rfl hu5) (de_ix (op_ixV rfl) (de_var (i := 1)) de_int) (de_fld (L := L0 K cA) (k := 0) rfl rfl fj_0 (okf_numbers T) (de_var (i := 0)))) (ds_one (ds_ret (de_tup (da_cons (de_new (dl_lst (da_cons (de_tup (da_cons de_str (da_cons (de_ix (op_ixV rfl) (de_var (i := 1)) de_int) da_nil))) da_nil))) (da_cons (de_new (dl_lst da_nil)) da_nil))))) ds_nil)
    (ds_cons (ds_expr (de_app rfl (de_fld (L := L0 K cA) (k := 0) rfl rfl fj_0 (okf_numbers T) (de_var (i := 0))) (de_ix (op_ixV rfl) (de_var (i := 1)) de_int)))
    (ds_one (ds_ret (de_tup (da_cons (de_new (dl_lst (da_cons (de_tup (da_cons de_str (da_cons (de_ix (op_ixV rfl) (de_var (i := 1)) de_int) da_nil))) da_nil))) (da_cons (de_new (dl_lst (da_cons (de_var (i := 2)) da_nil))) da_nil)))))))))))
theorem sc__law_cell : FnScope N__law_cell ps__law_cell (defScope s__law_cell) := ⟨rfl, rfl, rfl, by decide +kernel, rfl, by decide +kernel, by decide +kernel⟩
theorem ok__law_cell {k : Nat} (T : Txt K mg fA fD cA) (I : Oks P w K mg base fA cA fD k) : FnOk P w K mg base (L2.CX P w) (2 * (k + 1)) (fA 2) (fD 2) ps__law_cell (spC (L0 K cA) (run (k + 1) 2)) := by
  refine fn_ok (k := 2 * k + 1) (n := 2) (sl := 2) (sm := B__law_cell (run k)) T.F__law_cell sc__law_cell rfl rfl fun cdv A outer s H E hr => ?_
  have hr0 := hr.mono (show 2 * k ≤ 2 * k + 1 by omega)
  have hu := hr.units
  have hu5 := units65 hr
  have nd := sc__law_cell.nd
  exact (ds_cons (ds_if (dt_truth rfl (de_var (i := 0))) (ds_one (ds_ret (de_ix (op_ixV rfl) (de_var (i := 0)) (de_bin (op_modV) (de_var (i := 1)) (de_blt (cr_lenV rfl) T.z_len (by decide +kernel) (da_cons (de_var (i := 0)) da_nil)))))) ds_nil)
    (ds_one (ds_ret de_int)))
theorem sc__law_mix : FnScope N__law_mix ps__law_mix (defScope s__law_mix) := ⟨rfl, rfl, rfl, by decide +kernel, rfl, by decide +kernel, by decide +kernel⟩
theorem ok__law_mix {k : Nat} (T : Txt K mg fA fD cA) (I : Oks P w K mg base fA cA fD k) : FnOk P w K mg base (L2.CX P w) (2 * (k + 1)) (fA 3) (fD 3) ps__law_mix (spC (L0 K cA) (run (k + 1) 3)) := by
  refine fn_ok (k := 2 * k + 1) (n := 2) (sl := 3) (sm := B__law_mix (run k)) T.F__law_mix sc__law_mix rfl rfl fun cdv A outer s H E hr => ?_
  have hr0 := hr.mono (show 2 * k ≤ 2 * k + 1 by omega)
  have hu := hr.units
  have hu5 := units65 hr
  have nd := sc__law_mix.nd
  exact (ds_cons (ds_set (i := 2) nd (de_bin (op_modV) (de_bin (op_addV rfl) (de_call (takes_of rfl rfl rfl rfl) I.o__law_cell hr0 T.m__law_cell T.k__law_cell T.b__law_cell (da_cons (de_var (i := 0)) (da_cons (de_var (i := 1)) da_nil))) (de_bin (op_mulV) de_int (de_bin (op_addV rfl) (de_var (i := 1)) de_int))) de_int))
    (ds_cons (ds_set (i := 2) nd (de_bin (op_modV) (de_bin (op_powV) (de_var (i := 2)) de_int) de_int))
    (ds_one (ds_ret (de_bin (op_modV) (de_bin (op_addV rfl) (de_bin (op_mulV) (de_bin (op_divV) (de_var (i := 2)) de_int) de_int) (de_var (i := 2))) de_int)))))
theorem sc__law_draw : FnScope N__law_draw ps__law_draw (defScope s__law_draw) := ⟨rfl, rfl, rfl, by decide +kernel, rfl, by decide +kernel, by decide +kernel⟩
theorem ok__law_draw {k : Nat} (T : Txt K mg fA fD cA) (I : Oks P w K mg base fA cA fD k) : FnOk P w K mg base (L2.CX P w) (2 * (k + 1)) (fA 4) (fD 4) ps__law_draw (spC (L0 K cA) (run (k + 1) 4)) := by
  refine fn_ok (k := 2 * k + 1) (n := 3) (sl := 3) (sm := B__law_draw (run k)) T.F__law_draw sc__law_draw rfl rfl fun cdv A outer s H E hr => ?_
  have hr0 := hr.mono (show 2 * k ≤ 2 * k + 1 by omega)
  have hu := hr.units
  have hu5 := units65 hr
  have nd := sc__law_draw.nd
  exact (ds_cons (ds_expr (de_app rfl (de_var (i := 1)) de_int))
    (ds_one (ds_ret (de_bin (op_modV) (de_bin (op_divV) (de_call (takes_of rfl rfl rfl rfl) I.o__law_mix hr0 T.m__law_mix T.k__law_mix T.b__law_mix (da_cons (de_var (i := 0)) (da_cons (de_blt (cr_lenV rfl) T.z_len (by decide +kernel) (da_cons (de_var (i := 1)) da_nil)) da_nil))) de_int) (de_var (i := 2))))))
theorem sc__law_pick : FnScope N__law_pick ps__law_pick (defScope s__law_pick) := ⟨rfl, rfl, rfl, by decide +kernel, rfl, by decide +kernel, by decide +kernel⟩
theorem ok__law_pick {k : Nat} (T : Txt K mg fA fD cA) (I : Oks P w K mg base fA cA fD k) : FnOk P w K mg base (L2.CX P w) (2 * (k + 1)) (fA 5) (fD 5) ps__law_pick (spC (L0 K cA) (run (k + 1) 5)) := by
  refine fn_ok (k := 2 * k + 1) (n := 3) (sl := 3) (sm := B__law_pick (run k)) T.F__law_pick sc__law_pick rfl rfl fun cdv A outer s H E hr => ?_
  have hr0 := hr.mono (show 2 * k ≤ 2 * k + 1 by omega)
  have hu := hr.units
  have hu5 := units65 hr
  have nd := sc__law_pick.nd
  exact (ds_one (ds_ret (de_ix (op_ixV rfl) (de_var (i := 2)) (de_call (takes_of rfl rfl rfl rfl) I.o__law_draw hr0 T.m__law_draw T.k__law_draw T.b__law_draw (da_cons (de_var (i := 0)) (da_cons (de_var (i := 1)) (da_cons (de_blt (cr_lenV rfl) T.z_len (by decide +kernel) (da_cons (de_var (i := 2)) da_nil)) da_nil)))))))
theorem sc__law_small : FnScope N__law_small ps__law_small (defScope s__law_small) := ⟨rfl, rfl, rfl, by decide +kernel, rfl, by decide +kernel, by decide +kernel⟩
theorem ok__law_small {k : Nat} (T : Txt K mg fA fD cA) (I : Oks P w K mg base fA cA fD k) : FnOk P w K mg base (L2.CX P w) (2 * (k + 1)) (fA 6) (fD 6) ps__law_small (spC (L0 K cA) (run (k + 1) 6)) := by
  refine fn_ok (k := 2 * k + 1) (n := 2) (sl := 4) (sm := B__law_small (run k)) T.F__law_small sc__law_small rfl rfl fun cdv A outer s H E hr => ?_
  have hr0 := hr.mono (show 2 * k ≤ 2 * k + 1 by omega)
  have hu := hr.units
  have hu5 := units65 hr
  have nd := sc__law_small.nd
  exact (ds_cons (ds_set (i := 2) nd (de_call (takes_of rfl rfl rfl rfl) I.o__law_pick hr0 T.m__law_pick T.k__law_pick T.b__law_pick (da_cons (de_var (i := 0)) (da_cons (de_var (i := 1)) (da_cons (de_new (dl_lst (da_cons de_str (da_cons de_str (da_cons de_str (da_cons de_str (da_cons de_str da_nil))))))) da_nil)))))
    (ds_cons (ds_set (i := 3) nd (de_call (takes_of rfl rfl rfl rfl) I.o__law_pick hr0 T.m__law_pick T.k__law_pick T.b__law_pick (da_cons (de_var (i := 0)) (da_cons (de_var (i := 1)) (da_cons (de_new (dl_lst (da_cons de_str (da_cons de_str (da_cons de_str (da_cons de_str (da_cons de_str da_nil))))))) da_nil)))))
    (ds_one (ds_ret (de_tup (da_cons (de_var (i := 3)) (da_cons (de_var (i := 2)) (da_cons (de_call (takes_of rfl rfl rfl rfl) I.o__law_draw hr0 T.m__law_draw T.k__law_draw T.b__law_draw (da_cons (de_var (i := 0)) (da_cons (de_var (i := 1)) (da_cons de_int da_nil)))) (da_cons (de_cmp (op_eqV rfl hu) (de_call (takes_of rfl rfl rfl rfl) I.o__law_draw hr0 T.m__law_draw T.k__law_draw T.b__law_draw (da_cons (de_var (i := 0)) (da_cons (de_var (i := 1)) (da_cons de_int da_nil)))) de_int) da_nil)))))))))
theorem sc__law_due : FnScope N__law_due ps__law_due (defScope s__law_due) := ⟨rfl, rfl, rfl, by decide +kernel, rfl, by decide +kernel, by decide +kernel⟩
theorem ok__law_due {k : Nat} (T : Txt K mg fA fD cA) (I : Oks P w K mg base fA cA fD k) : FnOk P w K mg base (L2.CX P w) (2 * (k + 1)) (fA 7) (fD 7) ps__law_due (spC (L0 K cA) (run (k + 1) 7)) := by
  refine fn_ok (k := 2 * k + 1) (n := 2) (sl := 4) (sm := B__law_due (run k)) T.F__law_due sc__law_due rfl rfl fun cdv A outer s H E hr => ?_
  have hr0 := hr.mono (show 2 * k ≤ 2 * k + 1 by omega)
  have hu := hr.units
  have hu5 := units65 hr
  have nd := sc__law_due.nd
  exact (ds_cons (ds_set (i := 2) nd (de_ix (op_ixV rfl) (de_var (i := 0)) (de_neg de_int)))
    (ds_cons (ds_if (dt_cmp (fun _ _ _ _ h => bl_eq h) (op_eqV rfl hu) (de_ix (op_ixV rfl) (de_var (i := 0)) de_int) de_str) (ds_cons (ds_if (dt_cmp (fun _ _ _ _ h => bl_in h) (op_inV rfl hu5) (de_var (i := 2)) (de_var (i := 1))) (ds_one (ds_expr (de_rem rfl (de_var (i := 1)) (de_var (i := 2))))) ds_nil)
    (ds_one (ds_ret (de_tup (da_cons (de_new (dl_lst (da_cons (de_tup (da_cons de_str (da_cons (de_var (i := 2)) da_nil))) da_nil))) (da_cons (de_new (dl_lst da_nil)) da_nil)))))) ds_nil)
    (ds_cons (ds_set (i := 3) nd (de_tup (da_cons (de_ix (op_ixV rfl) (de_var (i := 0)) de_int) (da_cons (de_ix (op_ixV rfl) (de_var (i := 0)) de_int) (da_cons (de_ix (op_ixV rfl) (de_var (i := 0)) de_int) (da_cons (de_ix (op_ixV rfl) (de_var (i := 0)) de_int) da_nil))))))
    (ds_cons (ds_if (dt_cmp (fun _ _ _ _ h => bl_eq h) (op_eqV rfl hu) (de_ix (op_ixV rfl) (de_var (i := 0)) de_int) de_int) (ds_cons (ds_if (dt_cmp (fun _ _ _ _ h => bl_in h) (op_inV rfl hu5) (de_var (i := 2)) (de_var (i := 1))) (ds_one (ds_ret (de_tup (da_cons (de_new (dl_lst (da_cons (de_tup (da_cons de_str (da_cons (de_var (i := 2)) da_nil))) da_nil))) (da_cons (de_new (dl_lst da_nil)) da_nil))))) ds_nil)
    (ds_cons (ds_expr (de_app rfl (de_var (i := 1)) (de_var (i := 2))))
    (ds_one (ds_ret (de_tup (da_cons (de_new (dl_lst (da_cons (de_tup (da_cons de_str (da_cons (de_var (i := 2)) da_nil))) da_nil))) (da_cons (de_new (dl_lst (da_cons (de_var (i := 3)) da_nil))) da_nil))))))) ds_nil)
    (ds_one (ds_ret (de_tup (da_cons (de_if (dt_cmp (fun _ _ _ _ h => bl_eq h) (op_eqV rfl hu) (de_ix (op_ixV rfl) (de_var (i := 0)) de_int) de_int) (de_new (dl_lst (da_cons (de_tup (da_cons de_str (da_cons (de_var (i := 2)) da_nil))) da_nil))) (de_new (dl_lst da_nil))) (da_cons (de_new (dl_lst (da_cons (de_var (i := 3)) da_nil))) da_nil)))))))))
theorem sc_law : FnScope N_law ps_law (defScope s_law) := ⟨rfl, rfl, rfl, by decide +kernel, rfl, by decide +kernel, by decide +kernel⟩
theorem ok_law {k : Nat} (T : Txt K mg fA fD cA) (I : Oks P w K mg base fA cA fD k) : FnOk P w K mg base (L2.CX P w) (2 * (k + 1)) (fA 8) (fD 8) ps_law (spC (L0 K cA) (run (k + 1) 8)) := by
  refine fn_ok (k := 2 * k + 1) (n := 1) (sl := 11) (sm := B_law (run k)) T.F_law sc_law rfl rfl fun cdv A outer s H E hr => ?_
  have hr0 := hr.mono (show 2 * k ≤ 2 * k + 1 by omega)
  have hu := hr.units
  have hu5 := units65 hr
  have nd := sc_law.nd
  exact (ds_cons (ds_set (i := 1) nd (de_mut (dl_lst da_nil)))
    (ds_cons (ds_set (i := 2) nd (de_new (dl_lst (da_cons (de_make0 (L := L0 K cA) (cl := 0) (takes_of rfl rfl rfl rfl) T.I_Taker I.o_Taker___init__ hr T.x_Taker T.b_Taker___init__) (da_cons (de_make0 (L := L0 K cA) (cl := 0) (takes_of rfl rfl rfl rfl) T.I_Taker I.o_Taker___init__ hr T.x_Taker T.b_Taker___init__) da_nil)))))
    (ds_cons (ds_set (i := 3) nd (de_mut (dl_lst (da_cons (de_mut (dl_lst da_nil)) (da_cons (de_mut (dl_lst da_nil)) da_nil)))))
    (ds_cons (ds_for (passes_of rfl) rfl (di_rng1 T.z_range (de_call (takes_of rfl rfl rfl rfl) I.o__law_draw hr0 T.m__law_draw T.k__law_draw T.b__law_draw (da_cons (de_var (i := 0)) (da_cons (de_var (i := 1)) (da_cons de_int da_nil))))) (dg_name (i := 4) nd) (ds_cons (ds_set (i := 5) nd (de_call (takes_of rfl rfl rfl rfl) I.o__law_pick hr0 T.m__law_pick T.k__law_pick T.b__law_pick (da_cons (de_var (i := 0)) (da_cons (de_var (i := 1)) (da_cons (de_new (dl_lst (da_cons de_int (da_cons de_int (da_cons de_int da_nil))))) da_nil)))))
    (ds_cons (ds_set (i := 6) nd (de_call (takes_of rfl rfl rfl rfl) I.o__law_pick hr0 T.m__law_pick T.k__law_pick T.b__law_pick (da_cons (de_var (i := 0)) (da_cons (de_var (i := 1)) (da_cons (de_new (dl_lst (da_cons de_int (da_cons de_int (da_cons de_int (da_cons de_int (da_cons de_int da_nil))))))) da_nil)))))
    (ds_cons (ds_if (dt_cmp (fun _ _ _ _ h => bl_eq h) (op_eqV rfl hu) (de_call (takes_of rfl rfl rfl rfl) I.o__law_draw hr0 T.m__law_draw T.k__law_draw T.b__law_draw (da_cons (de_var (i := 0)) (da_cons (de_var (i := 1)) (da_cons de_int da_nil)))) de_int) (ds_one (ds_set (i := 8) nd (de_tup (da_cons de_str (da_cons (de_var (i := 6)) da_nil))))) (ds_cons (ds_set (i := 9) nd (de_call (takes_of rfl rfl rfl rfl) I.o__law_small hr0 T.m__law_small T.k__law_small T.b__law_small (da_cons (de_var (i := 0)) (da_cons (de_var (i := 1)) da_nil))))
    (ds_cons (ds_set (i := 10) nd (de_and rfl (de_cmp (op_gtV) (de_ix (op_ixV rfl) (de_var (i := 9)) de_int) de_int) (de_one (de_cmp (op_eqV rfl hu) (de_call (takes_of rfl rfl rfl rfl) I.o__law_draw hr0 T.m__law_draw T.k__law_draw T.b__law_draw (da_cons (de_var (i := 0)) (da_cons (de_var (i := 1)) (da_cons de_int da_nil)))) de_int))))
    (ds_one (ds_set (i := 8) nd (de_bin (op_addV rfl) (de_bin (op_addV rfl) (de_tup (da_cons de_str da_nil)) (de_var (i := 9))) (de_tup (da_cons (de_var (i := 10)) (da_cons (de_if (dt_cmp (fun _ _ _ _ h => bl_gt h) (op_gtV) (de_ix (op_ixV rfl) (de_var (i := 9)) de_int) de_int) (de_var (i := 6)) de_int) da_nil)))))))))
    (ds_cons (ds_set (i := 7) nd (de_meth (L := L0 K cA) (nf := 1) (mt := mt_took) (takes_of rfl rfl rfl rfl) (mth_took T I) hr0 nm_took (de_ix (op_ixV rfl) (de_var (i := 2)) (de_var (i := 5))) (da_cons (de_var (i := 8)) da_nil)))
    (ds_one (ds_if (PW.pt (dw_or (dt_not (dt_truth rfl (de_isi (L := L0 K cA) (isi_ty (k := 4) (by decide +kernel)) rfl T.z_isinstance (de_var (i := 7)) (pe_bltn (v := .ty "tuple") (u := .type "tuple") rfl T.z_tuple (by decide +kernel) rfl) rfl))) (dw_one (dt_cmp (fun _ _ _ _ h => bl_ne h) (op_neV rfl hu) (de_var (i := 7)) (de_call (takes_of rfl rfl rfl rfl) I.o__law_due hr0 T.m__law_due T.k__law_due T.b__law_due (da_cons (de_var (i := 8)) (da_cons (de_ix (op_ixV rfl) (de_var (i := 3)) (de_var (i := 5))) da_nil))))))) (ds_one (ds_ret de_bl)) ds_nil)))))))
    (ds_one (ds_ret de_bl))))))
theorem oks (T : Txt K mg fA fD cA) : ∀ k, Oks P w K mg base fA cA fD k
  | 0 => ⟨fn_none, fn_none, fn_none, fn_none, fn_none, fn_none, fn_none, fn_none, fn_none⟩
  | k + 1 => have I := oks T k
    ⟨ok_Taker___init__ T I, ok_Taker_took T I, ok__law_cell T I, ok__law_mix T I, ok__law_draw T I, ok__law_pick T I, ok__law_small T I, ok__law_due T I, ok_law T I⟩
end
end TH.k31
end
section
set_option linter.all false
/-! L_k31: the bodies in pieces (printed by gen.py). -/
namespace TH.k31
open TH
def L_Taker_took_1t_1 (c : Calls) : SM := sFld 1 ok_numbers 0 (xVar 0) (xMut (lComp (iVal (xFld 1 ok_numbers 0 (xVar 0))) (.name 3) (some (xBin oNe (xVar 3) (xBin oIx (xVar 1) (xC (.int 1))))) (xVar 3) [3]))
def L_Taker_took_1t_2 (c : Calls) : SM := sRet (xTup (aCons (xLst (lLst (aCons (xTup (aCons (xC (.str [100, 111, 110, 101])) (aCons (xBin oIx (xVar 1) (xC (.int 1))) (aNil)))) (aNil)))) (aCons (xLst (lLst (aNil))) (aNil))))
def L_Taker_took_1t (c : Calls) : SM := sSeq (L_Taker_took_1t_1 c) (L_Taker_took_1t_2 c)
def L_Taker_took_1 (c : Calls) : SM := sIf (xBin oEq (xBin oIx (xVar 1) (xC (.int 0))) (xC (.str [102, 114, 101, 101]))) (L_Taker_took_1t c) (sSkip)
def L_Taker_took_2 (c : Calls) : SM := sSet 2 (xSl (xVar 1) (some (xC (.int 1))) (some (xC (.int 5))))
def L_Taker_took_3 (c : Calls) : SM := sIf (xBin oEq (xBin oIx (xVar 1) (xC (.int 3))) (xC (.int 0))) (sRet (xTup (aCons (xLst (lLst (aNil))) (aCons (xLst (lLst (aCons (xVar 2) (aNil)))) (aNil))))) (sSkip)
def L_Taker_took_4 (c : Calls) : SM := sIf (xBin oEq (xBin oIx (xVar 1) (xC (.int 3))) (xC (.int 1))) (sRet (xTup (aCons (xLst (lLst (aCons (xTup (aCons (xC (.str [103, 111, 116])) (aCons (xBin oIx (xVar 1) (xC (.int 6))) (aNil)))) (aNil)))) (aCons (xLst (lLst (aCons (xVar 2) (aNil)))) (aNil))))) (sSkip)
def L_Taker_took_5 (c : Calls) : SM := sIf (xBin oIn (xBin oIx (xVar 1) (xC (.int 6))) (xFld 1 ok_numbers 0 (xVar 0))) (sRet (xTup (aCons (xLst (lLst (aCons (xTup (aCons (xC (.str [104, 101, 108, 100])) (aCons (xBin oIx (xVar 1) (xC (.int 6))) (aNil)))) (aNil)))) (aCons (xLst (lLst (aNil))) (aNil))))) (sSkip)
def L_Taker_took_6 (c : Calls) : SM := sExpr (xApp (xFld 1 ok_numbers 0 (xVar 0)) (xBin oIx (xVar 1) (xC (.int 6))))
def L_Taker_took_7 (c : Calls) : SM := sRet (xTup (aCons (xLst (lLst (aCons (xTup (aCons (xC (.str [104, 101, 108, 100])) (aCons (xBin oIx (xVar 1) (xC (.int 6))) (aNil)))) (aNil)))) (aCons (xLst (lLst (aCons (xVar 2) (aNil)))) (aNil))))
def L_Taker_took (c : Calls) : SM := sSeq (L_Taker_took_1 c) (sSeq (L_Taker_took_2 c) (sSeq (L_Taker_took_3 c) (sSeq (L_Taker_took_4 c) (sSeq (L_Taker_took_5 c) (sSeq (L_Taker_took_6 c) (L_Taker_took_7 c))))))
theorem L_Taker_took_eq (c : Calls) : B_Taker_took c = L_Taker_took c := rfl
def L__law_small_1 (c : Calls) : SM := sSet 2 (xCall c 5 (aCons (xVar 0) (aCons (xVar 1) (aCons (xLst (lLst (aCons (xC (.str [])) (aCons (xC (.str [120])) (aCons (xC (.str [121, 32, 122])) (aCons (xC (.str [35])) (aCons (xC (.str [108, 97, 115, 116])) (aNil)))))))) (aNil)))))
def L__law_small_2 (c : Calls) : SM := sSet 3 (xCall c 5 (aCons (xVar 0) (aCons (xVar 1) (aCons (xLst (lLst (aCons (xC (.str [97])) (aCons (xC (.str [97, 47, 98])) (aCons (xC (.str [36, 115])) (aCons (xC (.str [47])) (aCons (xC (.str [98, 47, 47, 99])) (aNil)))))))) (aNil)))))
def L__law_small_3 (c : Calls) : SM := sRet (xTup (aCons (xVar 3) (aCons (xVar 2) (aCons (xCall c 4 (aCons (xVar 0) (aCons (xVar 1) (aCons (xC (.int 3)) (aNil))))) (aCons (xBin oEq (xCall c 4 (aCons (xVar 0) (aCons (xVar 1) (aCons (xC (.int 2)) (aNil))))) (xC (.int 0))) (aNil))))))
def L__law_small (c : Calls) : SM := sSeq (L__law_small_1 c) (sSeq (L__law_small_2 c) (L__law_small_3 c))
theorem L__law_small_eq (c : Calls) : B__law_small c = L__law_small c := rfl
def L__law_due_1 (c : Calls) : SM := sSet 2 (xBin oIx (xVar 0) (xNeg (xC (.int 1))))
def L__law_due_2t_1 (c : Calls) : SM := sIf (xBin oIn (xVar 2) (xVar 1)) (sExpr (xRem (xVar 1) (xVar 2))) (sSkip)
def L__law_due_2t_2 (c : Calls) : SM := sRet (xTup (aCons (xLst (lLst (aCons (xTup (aCons (xC (.str [100, 111, 110, 101])) (aCons (xVar 2) (aNil)))) (aNil)))) (aCons (xLst (lLst (aNil))) (aNil))))
def L__law_due_2t (c : Calls) : SM := sSeq (L__law_due_2t_1 c) (L__law_due_2t_2 c)
def L__law_due_2 (c : Calls) : SM := sIf (xBin oEq (xBin oIx (xVar 0) (xC (.int 0))) (xC (.str [102, 114, 101, 101]))) (L__law_due_2t c) (sSkip)
def L__law_due_3 (c : Calls) : SM := sSet 3 (xTup (aCons (xBin oIx (xVar 0) (xC (.int 1))) (aCons (xBin oIx (xVar 0) (xC (.int 2))) (aCons (xBin oIx (xVar 0) (xC (.int 3))) (aCons (xBin oIx (xVar 0) (xC (.int 4))) (aNil))))))
def L__law_due_4t_1 (c : Calls) : SM := sIf (xBin oIn (xVar 2) (xVar 1)) (sRet (xTup (aCons (xLst (lLst (aCons (xTup (aCons (xC (.str [104, 101, 108, 100])) (aCons (xVar 2) (aNil)))) (aNil)))) (aCons (xLst (lLst (aNil))) (aNil))))) (sSkip)
def L__law_due_4t_2 (c : Calls) : SM := sExpr (xApp (xVar 1) (xVar 2))
def L__law_due_4t_3 (c : Calls) : SM := sRet (xTup (aCons (xLst (lLst (aCons (xTup (aCons (xC (.str [104, 101, 108, 100])) (aCons (xVar 2) (aNil)))) (aNil)))) (aCons (xLst (lLst (aCons (xVar 3) (aNil)))) (aNil))))
def L__law_due_4t (c : Calls) : SM := sSeq (L__law_due_4t_1 c) (sSeq (L__law_due_4t_2 c) (L__law_due_4t_3 c))
def L__law_due_4 (c : Calls) : SM := sIf (xBin oEq (xBin oIx (xVar 0) (xC (.int 3))) (xC (.int 2))) (L__law_due_4t c) (sSkip)
def L__law_due_5 (c : Calls) : SM := sRet (xTup (aCons (xIf (xBin oEq (xBin oIx (xVar 0) (xC (.int 3))) (xC (.int 1))) (xLst (lLst (aCons (xTup (aCons (xC (.str [103, 111, 116])) (aCons (xVar 2) (aNil)))) (aNil)))) (xLst (lLst (aNil)))) (aCons (xLst (lLst (aCons (xVar 3) (aNil)))) (aNil))))
def L__law_due (c : Calls) : SM := sSeq (L__law_due_1 c) (sSeq (L__law_due_2 c) (sSeq (L__law_due_3 c) (sSeq (L__law_due_4 c) (L__law_due_5 c))))
theorem L__law_due_eq (c : Calls) : B__law_due c = L__law_due c := rfl
def L_law_1 (c : Calls) : SM := sSet 1 (xMut (lLst (aNil)))
def L_law_2 (c : Calls) : SM := sSet 2 (xLst (lLst (aCons (xMake c 0 0 aNil) (aCons (xMake c 0 0 aNil) (aNil)))))
def L_law_3 (c : Calls) : SM := sSet 3 (xMut (lLst (aCons (xMut (lLst (aNil))) (aCons (xMut (lLst (aNil))) (aNil)))))
def L_law_4b_1 (c : Calls) : SM := sSet 5 (xCall c 5 (aCons (xVar 0) (aCons (xVar 1) (aCons (xLst (lLst (aCons (xC (.int 0)) (aCons (xC (.int 0)) (aCons (xC (.int 1)) (aNil)))))) (aNil)))))
def L_law_4b_2 (c : Calls) : SM := sSet 6 (xCall c 5 (aCons (xVar 0) (aCons (xVar 1) (aCons (xLst (lLst (aCons (xC (.int 1)) (aCons (xC (.int 2)) (aCons (xC (.int 3)) (aCons (xC (.int 4)) (aCons (xC (.int 65535)) (aNil)))))))) (aNil)))))
def L_law_4b_3e_1 (c : Calls) : SM := sSet 9 (xCall c 6 (aCons (xVar 0) (aCons (xVar 1) (aNil))))
def L_law_4b_3e_2 (c : Calls) : SM := sSet 10 (xAnd (xBin oGt (xBin oIx (xVar 9) (xC (.int 2))) (xC (.int 0))) (xBin oEq (xCall c 4 (aCons (xVar 0) (aCons (xVar 1) (aCons (xC (.int 2)) (aNil))))) (xC (.int 0))))
def L_law_4b_3e_3 (c : Calls) : SM := sSet 8 (xBin oAdd (xBin oAdd (xTup (aCons (xC (.str [115, 97, 121])) (aNil))) (xVar 9)) (xTup (aCons (xVar 10) (aCons (xIf (xBin oGt (xBin oIx (xVar 9) (xC (.int 2))) (xC (.int 0))) (xVar 6) (xC (.int 0))) (aNil)))))
def L_law_4b_3e (c : Calls) : SM := sSeq (L_law_4b_3e_1 c) (sSeq (L_law_4b_3e_2 c) (L_law_4b_3e_3 c))
def L_law_4b_3 (c : Calls) : SM := sIf (xBin oEq (xCall c 4 (aCons (xVar 0) (aCons (xVar 1) (aCons (xC (.int 3)) (aNil))))) (xC (.int 0))) (sSet 8 (xTup (aCons (xC (.str [102, 114, 101, 101])) (aCons (xVar 6) (aNil))))) (L_law_4b_3e c)
def L_law_4b_4 (c : Calls) : SM := sSet 7 (xMeth c mt_took 1 (xBin oIx (xVar 2) (xVar 5)) (aCons (xVar 8) (aNil)))
def L_law_4b_5 (c : Calls) : SM := sIf (xOr (xNot (xIsi (isiT 4) (xVar 7))) (xBin oNe (xVar 7) (xCall c 7 (aCons (xVar 8) (aCons (xBin oIx (xVar 3) (xVar 5)) (aNil)))))) (sRet (xC (.bl false))) (sSkip)
def L_law_4b (c : Calls) : SM := sSeq (L_law_4b_1 c) (sSeq (L_law_4b_2 c) (sSeq (L_law_4b_3 c) (sSeq (L_law_4b_4 c) (L_law_4b_5 c))))
def L_law_4 (c : Calls) : SM := sFor (iRng1 (xCall c 4 (aCons (xVar 0) (aCons (xVar 1) (aCons (xC (.int 41)) (aNil)))))) (.name 4) (L_law_4b c)
def L_law_5 (c : Calls) : SM := sRet (xC (.bl true))
def L_law (c : Calls) : SM := sSeq (L_law_1 c) (sSeq (L_law_2 c) (sSeq (L_law_3 c) (sSeq (L_law_4 c) (L_law_5 c))))
theorem L_law_eq (c : Calls) : B_law c = L_law c := rfl
end TH.k31
end
section
set_option linter.all false
set_option autoImplicit false
/-! TH9: how the combinators run, step by step, for simp. Plain Lean. -/
namespace TH.Q
open TH
variable {α β : Type}

/-! ### results -/
@[simp] theorem bind_ok (a : α) (st : St) (k : α → St → RR β) : RR.bind (.ok a st) k = k a st := id rfl
@[simp] theorem bind_exn (c : Nat) (st : St) (k : α → St → RR β) : RR.bind (.exn c st) k = .exn c st := id rfl
@[simp] theorem bind_stuck (k : α → St → RR β) : RR.bind .stuck k = .stuck := id rfl
@[simp] theorem bindS_ok (a : α) (st : St) (env : Env) (k : α → St → RS) : RR.bindS (.ok a st) env k = k a st := id rfl
@[simp] theorem bindS_exn (c : Nat) (st : St) (env : Env) (k : α → St → RS) : RR.bindS (.exn c st) env k = .exn c env st := id rfl
@[simp] theorem bindS_stuck (env : Env) (k : α → St → RS) : RR.bindS .stuck env k = .stuck := id rfl
@[simp] theorem seq_nx (env : Env) (st : St) (k : Env → St → RS) : RS.seq (.nx env st) k = k env st := id rfl
@[simp] theorem seq_ret (d : D) (st : St) (k : Env → St → RS) : RS.seq (.ret d st) k = .ret d st := id rfl
@[simp] theorem seq_brk (env : Env) (st : St) (k : Env → St → RS) : RS.seq (.brk env st) k = .brk env st := id rfl
@[simp] theorem seq_exn (c : Nat) (env : Env) (st : St) (k : Env → St → RS) : RS.seq (.exn c env st) k = .exn c env st := id rfl
@[simp] theorem seq_stuck (k : Env → St → RS) : RS.seq .stuck k = .stuck := id rfl
@[simp] theorem bind_ite {p : Prop} [Decidable p] (a b : RR α) (k : α → St → RR β) : RR.bind (if p then a else b) k = if p then a.bind k else b.bind k := by split <;> rfl
@[simp] theorem bindS_ite {p : Prop} [Decidable p] (a b : RR α) (env : Env) (k : α → St → RS) : RR.bindS (if p then a else b) env k = if p then a.bindS env k else b.bindS env k := by split <;> rfl
@[simp] theorem seq_ite {p : Prop} [Decidable p] (a b : RS) (k : Env → St → RS) : RS.seq (if p then a else b) k = if p then a.seq k else b.seq k := by split <;> rfl
@[simp] theorem ofO_some (d : D) (st : St) : ofO (some d) st = .ok d st := id rfl
@[simp] theorem ofO_none (st : St) : ofO none st = .stuck := id rfl
@[simp] theorem ofL_some (d : List D) (st : St) : ofL (some d) st = .ok d st := id rfl
@[simp] theorem noX_ok (a : α) (st : St) : noX (.ok a st) = .ok a st := id rfl
@[simp] theorem noX_ite {p : Prop} [Decidable p] (a b : RR α) : noX (if p then a else b) = if p then noX a else noX b := by split <;> rfl

/-! ### variables, constants -/
@[simp high] theorem get_zero (a : α) (l : List α) : (a :: l)[0]? = some a := id rfl
@[simp high] theorem get_one (a b : α) (l : List α) : (a :: b :: l)[1]? = some b := id rfl
@[simp high] theorem get_two (a b c : α) (l : List α) : (a :: b :: c :: l)[2]? = some c := id rfl
def vr (o : Option (Option D)) (st : St) : RE := match o with
  | some (some d) => .ok d st
  | _ => .stuck
@[simp] theorem vr_some (d : D) (st : St) : vr (some (some d)) st = .ok d st := id rfl
@[simp] theorem ap_var (i : Nat) (env : Env) (st : St) : xVar i env st = vr env[i]? st := id rfl
@[simp] theorem ap_C (d : D) (env : Env) (st : St) : xC d env st = .ok d st := id rfl

/-! ### operators -/
def bin2 (o : Op2) (x y : D) (st : St) : RE := ofO (o x y st) st
def bin1 (o : Op2) (g : EM) (env : Env) (x : D) (st : St) : RE := (g env st).bind (bin2 o x)
@[simp] theorem ap_bin (o : Op2) (f g : EM) (env : Env) (st : St) : xBin o f g env st = (f env st).bind (bin1 o g env) := id rfl
@[simp] theorem ap_bin1 (o : Op2) (g : EM) (env : Env) (x : D) (st : St) : bin1 o g env x st = (g env st).bind (bin2 o x) := id rfl
@[simp] theorem ap_bin2 (o : Op2) (x y : D) (st : St) : bin2 o x y st = ofO (o x y st) st := id rfl
def not2 (o : Option Bool) (st : St) : RE := match o with
  | some b => .ok (.bl (!b)) st
  | none => .stuck
def not1 (x : D) (st : St) : RE := not2 (truthy st x) st
@[simp] theorem ap_not (f : EM) (env : Env) (st : St) : xNot f env st = (f env st).bind not1 := by
  show (f env st).bind _ = _
  congr 1
@[simp] theorem ap_not1 (x : D) (st : St) : not1 x st = not2 (truthy st x) st := id rfl
@[simp] theorem ap_not2 (b : Bool) (st : St) : not2 (some b) st = .ok (.bl (!b)) st := id rfl
def neg1 (x : D) (st : St) : RE := match x with
  | .int i => .ok (.int (-i)) st
  | _ => .stuck
@[simp] theorem ap_neg (f : EM) (env : Env) (st : St) : xNeg f env st = (f env st).bind neg1 := id rfl
@[simp] theorem ap_neg1 (i : Int) (st : St) : neg1 (.int i) st = .ok (.int (-i)) st := id rfl

/-- and, or: the right side is run too; it counts only when the left side says so -/
def and3 (b : Bool) (r : RE) (x : D) (st : St) : RE := if b then r else .ok x st
def or3 (b : Bool) (r : RE) (x : D) (st : St) : RE := if b then .ok x st else r
def and2 (o : Option Bool) (r : RE) (x : D) (st : St) : RE := match o with
  | some b => and3 b r x st
  | none => .stuck
def or2 (o : Option Bool) (r : RE) (x : D) (st : St) : RE := match o with
  | some b => or3 b r x st
  | none => .stuck
def and1 (g : EM) (env : Env) (x : D) (st : St) : RE := and2 (truthy st x) (g env st) x st
def or1 (g : EM) (env : Env) (x : D) (st : St) : RE := or2 (truthy st x) (g env st) x st
@[simp] theorem ap_and (f g : EM) (env : Env) (st : St) : xAnd f g env st = (f env st).bind (and1 g env) := by
  show (f env st).bind _ = _
  congr 1; funext x st; unfold and1 and2 and3
  rcases truthy st x with _ | _ | _ <;> rfl
@[simp] theorem ap_or (f g : EM) (env : Env) (st : St) : xOr f g env st = (f env st).bind (or1 g env) := by
  show (f env st).bind _ = _
  congr 1; funext x st; unfold or1 or2 or3
  rcases truthy st x with _ | _ | _ <;> rfl
@[simp] theorem ap_and1 (g : EM) (env : Env) (x : D) (st : St) : and1 g env x st = and2 (truthy st x) (g env st) x st := id rfl
@[simp] theorem ap_or1 (g : EM) (env : Env) (x : D) (st : St) : or1 g env x st = or2 (truthy st x) (g env st) x st := id rfl
@[simp] theorem ap_and2 (b : Bool) (r : RE) (x : D) (st : St) : and2 (some b) r x st = and3 b r x st := id rfl
@[simp] theorem ap_or2 (b : Bool) (r : RE) (x : D) (st : St) : or2 (some b) r x st = or3 b r x st := id rfl
@[simp] theorem and3_t (r : RE) (x : D) (st : St) : and3 true r x st = r := id rfl
@[simp] theorem and3_f (r : RE) (x : D) (st : St) : and3 false r x st = .ok x st := id rfl
@[simp] theorem or3_t (r : RE) (x : D) (st : St) : or3 true r x st = .ok x st := id rfl
@[simp] theorem or3_f (r : RE) (x : D) (st : St) : or3 false r x st = r := id rfl
@[simp] theorem and3_b (b c : Bool) (st : St) : and3 b (.ok (.bl c) st) (.bl b) st = .ok (.bl (b && c)) st := by cases b <;> rfl
@[simp] theorem or3_b (b c : Bool) (st : St) : or3 b (.ok (.bl c) st) (.bl b) st = .ok (.bl (b || c)) st := by cases b <;> rfl

/-- one of two -/
def if3 (b : Bool) (r s : RE) : RE := if b then r else s
def if2 (o : Option Bool) (r s : RE) : RE := match o with
  | some b => if3 b r s
  | none => .stuck
def if1 (f g : EM) (env : Env) (x : D) (st : St) : RE := if2 (truthy st x) (f env st) (g env st)
@[simp] theorem ap_if (c f g : EM) (env : Env) (st : St) : xIf c f g env st = (c env st).bind (if1 f g env) := by
  show (c env st).bind _ = _
  congr 1; funext x st; unfold if1 if2 if3
  rcases truthy st x with _ | _ | _ <;> rfl
@[simp] theorem ap_if1 (f g : EM) (env : Env) (x : D) (st : St) : if1 f g env x st = if2 (truthy st x) (f env st) (g env st) := id rfl
@[simp] theorem ap_if2 (b : Bool) (r s : RE) : if2 (some b) r s = if3 b r s := id rfl
@[simp] theorem if3_t (r s : RE) : if3 true r s = r := id rfl
@[simp] theorem if3_f (r s : RE) : if3 false r s = s := id rfl
@[simp] theorem if3_b (b : Bool) (x y : D) (st : St) : if3 b (.ok x st) (.ok y st) = .ok (if b then x else y) st := by cases b <;> rfl
@[simp] theorem ite_bl {p : Prop} [Decidable p] (x y : Bool) : (if p then D.bl x else D.bl y) = D.bl (if p then x else y) := by split <;> rfl
@[simp] theorem ite_int {p : Prop} [Decidable p] (x y : Int) : (if p then D.int x else D.int y) = D.int (if p then x else y) := by split <;> rfl
@[simp] theorem ite_str {p : Prop} [Decidable p] (x y : List Nat) : (if p then D.str x else D.str y) = D.str (if p then x else y) := by split <;> rfl
@[simp] theorem ite_lst {p : Prop} [Decidable p] (x y : List D) : (if p then D.lst x else D.lst y) = D.lst (if p then x else y) := by split <;> rfl

def ch3 (o : Option D) (p : Op2) (r : RE) (y : D) (st : St) : RE := match o with
  | some (.bl true) => r.bind fun z st => ofO (p y z st) st
  | some (.bl false) => .ok (.bl false) st
  | _ => .stuck
def ch2 (o p : Op2) (h : EM) (env : Env) (x y : D) (st : St) : RE := ch3 (o x y st) p (h env st) y st
def ch1 (o p : Op2) (g h : EM) (env : Env) (x : D) (st : St) : RE := (g env st).bind (ch2 o p h env x)
@[simp] theorem ap_chain (o p : Op2) (f g h : EM) (env : Env) (st : St) : xChain o p f g h env st = (f env st).bind (ch1 o p g h env) := by
  show (f env st).bind _ = _
  congr 1
@[simp] theorem ap_ch1 (o p : Op2) (g h : EM) (env : Env) (x : D) (st : St) : ch1 o p g h env x st = (g env st).bind (ch2 o p h env x) := id rfl
@[simp] theorem ap_ch2 (o p : Op2) (h : EM) (env : Env) (x y : D) (st : St) : ch2 o p h env x y st = ch3 (o x y st) p (h env st) y st := id rfl
def ch4 (b : Bool) (r : RE) (st : St) : RE := if b then r else .ok (.bl false) st
@[simp] theorem ap_ch3 (b : Bool) (p : Op2) (z y : D) (st st' : St) : ch3 (some (.bl b)) p (.ok z st') y st = ch4 b (ofO (p y z st') st') st := by cases b <;> rfl
@[simp] theorem ch4_b (b c : Bool) (st : St) : ch4 b (.ok (.bl c) st) st = .ok (.bl (b && c)) st := by cases b <;> rfl

/-! ### tuples, lists -/
@[simp] theorem ap_nil (env : Env) (st : St) : aNil env st = .ok [] st := id rfl
def cns2 (x : D) (xs : List D) (st : St) : RA := .ok (x :: xs) st
def cns1 (g : AM) (env : Env) (x : D) (st : St) : RA := (g env st).bind (cns2 x)
@[simp] theorem ap_cons (f : EM) (g : AM) (env : Env) (st : St) : aCons f g env st = (f env st).bind (cns1 g env) := id rfl
@[simp] theorem ap_cns1 (g : AM) (env : Env) (x : D) (st : St) : cns1 g env x st = (g env st).bind (cns2 x) := id rfl
@[simp] theorem ap_cns2 (x : D) (xs : List D) (st : St) : cns2 x xs st = .ok (x :: xs) st := id rfl
def tup1 (xs : List D) (st : St) : RE := if xs.length ≤ LN then .ok (.tup xs) st else .stuck
@[simp] theorem ap_tup (a : AM) (env : Env) (st : St) : xTup a env st = (a env st).bind tup1 := id rfl
theorem tup1_ok {xs : List D} {st : St} (h : xs.length ≤ 16777216) : tup1 xs st = .ok (.tup xs) st := if_pos h
def lst1 (xs : List D) (st : St) : RA := if xs.length ≤ LN then .ok xs st else .stuck
@[simp] theorem ap_llst (a : AM) (env : Env) (st : St) : lLst a env st = (a env st).bind lst1 := id rfl
theorem lst1_ok {xs : List D} {st : St} (h : xs.length ≤ 16777216) : lst1 xs st = .ok xs st := if_pos h
@[simp] theorem tup1_0 (st : St) : tup1 [] st = .ok (.tup []) st := tup1_ok (by simp)
@[simp] theorem tup1_1 (a : D) (st : St) : tup1 [a] st = .ok (.tup [a]) st := tup1_ok (by simp)
@[simp] theorem tup1_2 (a b : D) (st : St) : tup1 [a, b] st = .ok (.tup [a, b]) st := tup1_ok (by simp)
@[simp] theorem tup1_3 (a b c : D) (st : St) : tup1 [a, b, c] st = .ok (.tup [a, b, c]) st := tup1_ok (by simp)
@[simp] theorem tup1_4 (a b c d : D) (st : St) : tup1 [a, b, c, d] st = .ok (.tup [a, b, c, d]) st := tup1_ok (by simp)
@[simp] theorem tup1_5 (a b c d e : D) (st : St) : tup1 [a, b, c, d, e] st = .ok (.tup [a, b, c, d, e]) st := tup1_ok (by simp)
@[simp] theorem tup1_6 (a b c d e f : D) (st : St) : tup1 [a, b, c, d, e, f] st = .ok (.tup [a, b, c, d, e, f]) st := tup1_ok (by simp)
@[simp] theorem tup1_7 (a b c d e f g : D) (st : St) : tup1 [a, b, c, d, e, f, g] st = .ok (.tup [a, b, c, d, e, f, g]) st := tup1_ok (by simp)
@[simp] theorem lst1_0 (st : St) : lst1 [] st = .ok [] st := lst1_ok (by simp)
@[simp] theorem lst1_1 (a : D) (st : St) : lst1 [a] st = .ok [a] st := lst1_ok (by simp)
@[simp] theorem lst1_2 (a b : D) (st : St) : lst1 [a, b] st = .ok [a, b] st := lst1_ok (by simp)
@[simp] theorem lst1_3 (a b c : D) (st : St) : lst1 [a, b, c] st = .ok [a, b, c] st := lst1_ok (by simp)
@[simp] theorem lst1_4 (a b c d : D) (st : St) : lst1 [a, b, c, d] st = .ok [a, b, c, d] st := lst1_ok (by simp)
@[simp] theorem lst1_5 (a b c d e : D) (st : St) : lst1 [a, b, c, d, e] st = .ok [a, b, c, d, e] st := lst1_ok (by simp)
@[simp] theorem lst1_6 (a b c d e f : D) (st : St) : lst1 [a, b, c, d, e, f] st = .ok [a, b, c, d, e, f] st := lst1_ok (by simp)
@[simp] theorem lst1_7 (a b c d e f g : D) (st : St) : lst1 [a, b, c, d, e, f, g] st = .ok [a, b, c, d, e, f, g] st := lst1_ok (by simp)
@[simp] theorem lst1_8 (a b c d e f g h : D) (st : St) : lst1 [a, b, c, d, e, f, g, h] st = .ok [a, b, c, d, e, f, g, h] st := lst1_ok (by simp)
@[simp] theorem lst1_9 (a b c d e f g h i : D) (st : St) : lst1 [a, b, c, d, e, f, g, h, i] st = .ok [a, b, c, d, e, f, g, h, i] st := lst1_ok (by simp)
@[simp] theorem lst1_10 (a b c d e f g h i j : D) (st : St) : lst1 [a, b, c, d, e, f, g, h, i, j] st = .ok [a, b, c, d, e, f, g, h, i, j] st := lst1_ok (by simp)
def val1 (xs : List D) (st : St) : RE := .ok (.lst xs) st
def mut1 (xs : List D) (st : St) : RE := .ok (.ref st.length) (st ++ [.ml xs])
@[simp] theorem ap_xlst (a : LM) (env : Env) (st : St) : xLst a env st = (a env st).bind val1 := id rfl
@[simp] theorem ap_val1 (xs : List D) (st : St) : val1 xs st = .ok (.lst xs) st := id rfl
@[simp] theorem ap_mut (a : LM) (env : Env) (st : St) : xMut a env st = (a env st).bind mut1 := id rfl
@[simp] theorem ap_mut1 (xs : List D) (st : St) : mut1 xs st = .ok (.ref st.length) (st ++ [.ml xs]) := id rfl
def frz2 (o : Option Ob) (n : Nat) (st : St) : RE := match o with
  | some (.ml l) => .ok (.lst l) (st.set n (.fz l))
  | some (.fz l) => .ok (.lst l) st
  | _ => .stuck
def frz1 (x : D) (st : St) : RE := match x with
  | .ref n => frz2 st[n]? n st
  | .lst l => .ok (.lst l) st
  | _ => .stuck
@[simp] theorem ap_frz (f : EM) (env : Env) (st : St) : xFrz f env st = (f env st).bind frz1 := by
  show (f env st).bind _ = _
  congr 1
@[simp] theorem ap_frz1 (n : Nat) (st : St) : frz1 (.ref n) st = frz2 st[n]? n st := id rfl
@[simp] theorem ap_frz1l (l : List D) (st : St) : frz1 (.lst l) st = .ok (.lst l) st := id rfl
@[simp] theorem ap_frz2 (l : List D) (n : Nat) (st : St) : frz2 (some (.ml l)) n st = .ok (.lst l) (st.set n (.fz l)) := id rfl
@[simp] theorem ap_frz2f (l : List D) (n : Nat) (st : St) : frz2 (some (.fz l)) n st = .ok (.lst l) st := id rfl

/-! ### a list's items -/
def asO (o : Option Ob) : Option (List D) := match o with
  | some (.ml l) => some l
  | some (.fz l) => some l
  | _ => none
@[simp] theorem asO_ml (l : List D) : asO (some (.ml l)) = some l := id rfl
@[simp] theorem asO_fz (l : List D) : asO (some (.fz l)) = some l := id rfl
@[simp] theorem asL_lst (st : St) (l : List D) : asL st (.lst l) = some l := id rfl
@[simp] theorem asL_ref (st : St) (n : Nat) : asL st (.ref n) = asO st[n]? := by
  unfold asO; show (match st[n]? with | some (.ml l) => some l | some (.fz l) => some l | _ => none) = _; rfl
@[simp] theorem asL_str (st : St) (l : List Nat) : asL st (.str l) = none := id rfl
@[simp] theorem asL_tup (st : St) (l : List D) : asL st (.tup l) = none := id rfl
@[simp] theorem asL_int (st : St) (i : Int) : asL st (.int i) = none := id rfl
@[simp] theorem asL_bl (st : St) (i : Bool) : asL st (.bl i) = none := id rfl
@[simp] theorem asL_non (st : St) : asL st .non = none := id rfl
def adO (o : Option Ob) (n : Nat) : D := match o with
  | some (.ml l) => .lst l
  | some (.fz l) => .lst l
  | _ => .ref n
@[simp] theorem adO_ml (l : List D) (n : Nat) : adO (some (.ml l)) n = .lst l := id rfl
@[simp] theorem adO_fz (l : List D) (n : Nat) : adO (some (.fz l)) n = .lst l := id rfl
@[simp] theorem asD_ref (st : St) (n : Nat) : asD st (.ref n) = adO st[n]? n := by
  show (match st[n]? with | some (.ml l) => D.lst l | some (.fz l) => .lst l | _ => .ref n) = _; rfl
@[simp] theorem asD_lst (st : St) (l : List D) : asD st (.lst l) = .lst l := id rfl
@[simp] theorem asD_tup (st : St) (l : List D) : asD st (.tup l) = .tup l := id rfl
@[simp] theorem asD_str (st : St) (l : List Nat) : asD st (.str l) = .str l := id rfl
@[simp] theorem asD_int (st : St) (l : Int) : asD st (.int l) = .int l := id rfl
@[simp] theorem asD_bl (st : St) (l : Bool) : asD st (.bl l) = .bl l := id rfl
@[simp] theorem asD_non (st : St) : asD st .non = .non := id rfl

/-! ### truth -/
@[simp] theorem truthy_bl (st : St) (b : Bool) : truthy st (.bl b) = some b := id rfl
@[simp] theorem truthy_non (st : St) : truthy st .non = some false := id rfl
@[simp] theorem truthy_int (st : St) (i : Int) : truthy st (.int i) = some (i != 0) := id rfl
@[simp] theorem truthy_tup (st : St) (l : List D) : truthy st (.tup l) = some (!l.isEmpty) := id rfl
@[simp] theorem truthy_lst (st : St) (l : List D) : truthy st (.lst l) = some (!l.isEmpty) := id rfl
theorem truthy_str {st : St} {s : List Nat} (h : s.length ≤ 16777216) : truthy st (.str s) = some (!s.isEmpty) := if_pos h
def trO (o : Option Ob) : Option Bool := match o with
  | some (.ml l) => some (!l.isEmpty)
  | some (.fz l) => some (!l.isEmpty)
  | _ => none
@[simp] theorem truthy_ref (st : St) (n : Nat) : truthy st (.ref n) = trO st[n]? := by
  show (match st[n]? with | some (.ml l) => some (!l.isEmpty) | some (.fz l) => some (!l.isEmpty) | _ => none) = _; rfl
@[simp] theorem trO_ml (l : List D) : trO (some (.ml l)) = some (!l.isEmpty) := id rfl
@[simp] theorem trO_fz (l : List D) : trO (some (.fz l)) = some (!l.isEmpty) := id rfl

/-! ### operators by kinds -/
@[simp] theorem oAdd_int (i j : Int) (st : St) : oAdd (.int i) (.int j) st = some (.int (i + j)) := id rfl
theorem oAdd_str {a b : List Nat} {st : St} (h : a.length + b.length ≤ 16777216) : oAdd (.str a) (.str b) st = some (.str (a ++ b)) := if_pos h
theorem oAdd_tup {a b : List D} {st : St} (h : a.length + b.length ≤ 16777216) (ha : a.isEmpty = false) : oAdd (.tup a) (.tup b) st = some (.tup (a ++ b)) := if_pos ⟨h, ha⟩
@[simp] theorem oSub_int (i j : Int) (st : St) : oSub (.int i) (.int j) st = some (.int (i - j)) := id rfl
theorem oMul_l {i j : Int} {st : St} (h : -(2 ^ 64) < i ∧ i < 2 ^ 64) : oMul (.int i) (.int j) st = some (.int (i * j)) := if_pos (.inl h)
theorem oMul_r {i j : Int} {st : St} (h : -(2 ^ 64) < j ∧ j < 2 ^ 64) : oMul (.int i) (.int j) st = some (.int (i * j)) := if_pos (.inr h)
theorem oDiv_int {i j : Int} {st : St} (h : 0 < j ∧ j < 1073741824) : oDiv (.int i) (.int j) st = some (.int (i / j)) := if_pos h
theorem oMod_int {i j : Int} {st : St} (h : 0 < j) : oMod (.int i) (.int j) st = some (.int (i % j)) := if_pos h
theorem oPow_int {i j : Int} {st : St} (h : 0 ≤ j ∧ j ≤ 1000000 ∧ i.natAbs < 2 ^ 64) : oPow (.int i) (.int j) st = some (.int (i ^ j.toNat)) := if_pos h
@[simp] theorem oEq_str (a b : List Nat) (st : St) : oEq (.str a) (.str b) st = some (.bl (a == b)) := id rfl
@[simp] theorem oNe_str (a b : List Nat) (st : St) : oNe (.str a) (.str b) st = some (.bl (!(a == b))) := id rfl
@[simp] theorem oEq_int (a b : Int) (st : St) : oEq (.int a) (.int b) st = some (.bl (a == b)) := id rfl
@[simp] theorem oNe_int (a b : Int) (st : St) : oNe (.int a) (.int b) st = some (.bl (!(a == b))) := id rfl
@[simp] theorem oEq_bl (a b : Bool) (st : St) : oEq (.bl a) (.bl b) st = some (.bl (a == b)) := id rfl
@[simp] theorem oNe_bl (a b : Bool) (st : St) : oNe (.bl a) (.bl b) st = some (.bl (!(a == b))) := id rfl
theorem oEq_pu {x y : D} {st : St} (hx : x.pu 20 = true) (hy : y.pu 20 = true) : eqD x y = some (x.eqv y) := by
  unfold eqD
  split
  · rfl
  · rw [hx, hy]; rfl
@[simp] theorem oLt_int (i j : Int) (st : St) : oLt (.int i) (.int j) st = some (.bl (decide (i < j))) := id rfl
@[simp] theorem oLe_int (i j : Int) (st : St) : oLe (.int i) (.int j) st = some (.bl (decide (i ≤ j))) := id rfl
@[simp] theorem oGt_int (i j : Int) (st : St) : oGt (.int i) (.int j) st = some (.bl (decide (j < i))) := id rfl
@[simp] theorem oGe_int (i j : Int) (st : St) : oGe (.int i) (.int j) st = some (.bl (decide (j ≤ i))) := id rfl
@[simp] theorem oLt_str (i j : List Nat) (st : St) : oLt (.str i) (.str j) st = some (.bl (decide (i < j))) := id rfl
@[simp] theorem oIn_str (a : Nat) (s : List Nat) (st : St) : oIn (.str [a]) (.str s) st = some (.bl (s.contains a)) := id rfl
@[simp] theorem oNotIn_str (a : Nat) (s : List Nat) (st : St) : oNotIn (.str [a]) (.str s) st = some (.bl (!s.contains a)) := id rfl
theorem oIn_tup {x : D} {l : List D} {st : St} (h : x.flat = true) (hl : l.all D.flat = true) : oIn x (.tup l) st = some (.bl (l.any fun y => y.eqv x)) := by
  show (inT x l).map D.bl = _
  unfold inT; rw [h, hl]; rfl
theorem oNotIn_tup {x : D} {l : List D} {st : St} (h : x.flat = true) (hl : l.all D.flat = true) : oNotIn x (.tup l) st = some (.bl (!(l.any fun y => y.eqv x))) := by
  unfold oNotIn; rw [oIn_tup h hl]
theorem oIn_lst {x : D} {l : List D} {st : St} (h : x.flat = true) (hl : l.all D.flat = true) : oIn x (.lst l) st = some (.bl (l.any fun y => y.eqv x)) := by
  show (inL x l).map D.bl = _
  unfold inL; rw [h, hl]; rfl
@[simp] theorem oIs_non (st : St) : oIs .non .non st = some (.bl true) := id rfl
@[simp] theorem oIs_str (x : List Nat) (st : St) : oIs (.str x) .non st = some (.bl false) := id rfl
@[simp] theorem oIs_int (x : Int) (st : St) : oIs (.int x) .non st = some (.bl false) := id rfl
@[simp] theorem oIs_bl (x : Bool) (st : St) : oIs (.bl x) .non st = some (.bl false) := id rfl
@[simp] theorem oIs_tup (x : List D) (st : St) : oIs (.tup x) .non st = some (.bl false) := id rfl
@[simp] theorem oIs_lst (x : List D) (st : St) : oIs (.lst x) .non st = some (.bl false) := id rfl
@[simp] theorem oIs_ref (x : Nat) (st : St) : oIs (.ref x) .non st = some (.bl false) := id rfl
@[simp] theorem oIs_exc (x : Nat) (st : St) : oIs (.exc x) .non st = some (.bl false) := id rfl
@[simp] theorem oIsNot_non (st : St) : oIsNot .non .non st = some (.bl false) := id rfl
@[simp] theorem oIsNot_str (x : List Nat) (st : St) : oIsNot (.str x) .non st = some (.bl true) := id rfl
@[simp] theorem oIsNot_int (x : Int) (st : St) : oIsNot (.int x) .non st = some (.bl true) := id rfl
@[simp] theorem oIsNot_bl (x : Bool) (st : St) : oIsNot (.bl x) .non st = some (.bl true) := id rfl
@[simp] theorem oIsNot_tup (x : List D) (st : St) : oIsNot (.tup x) .non st = some (.bl true) := id rfl
@[simp] theorem oIsNot_lst (x : List D) (st : St) : oIsNot (.lst x) .non st = some (.bl true) := id rfl
@[simp] theorem oIsNot_ref (x : Nat) (st : St) : oIsNot (.ref x) .non st = some (.bl true) := id rfl

theorem ixN_nat (n k : Nat) : ixN n (k : Int) = if k < n then some k else none := by
  unfold ixN
  rw [if_pos (by omega)]
  by_cases h : k < n
  · rw [if_pos (by omega), if_pos h]; simp
  · rw [if_neg (by omega), if_neg h]
theorem ixN_m1 (n : Nat) (h : 0 < n) : ixN n (-1) = some (n - 1) := by
  unfold ixN
  rw [if_neg (by omega), if_pos (by omega)]
  congr 1; omega
theorem ix_nat {α : Type} (l : List α) (k : Nat) : ((ixN l.length (k : Int)).bind fun j => l[j]?) = l[k]? := by
  rw [ixN_nat]
  by_cases h : k < l.length
  · rw [if_pos h]; rfl
  · rw [if_neg h]; simp; omega
theorem ix_m1 {α : Type} (l : List α) : ((ixN l.length (-1)).bind fun j => l[j]?) = l.getLast? := by
  cases l with
  | nil => rfl
  | cons a l => rw [ixN_m1 _ (by simp), List.getLast?_eq_getElem?]; rfl
theorem oIx_lst (l : List D) (k : Nat) (st : St) : oIx (.lst l) (.int (k : Int)) st = l[k]? := ix_nat l k
theorem oIx_tup (l : List D) (k : Nat) (st : St) : oIx (.tup l) (.int (k : Int)) st = l[k]? := ix_nat l k
@[simp] theorem oIx_lst0 (l : List D) (st : St) : oIx (.lst l) (.int 0) st = l.head? := by
  rw [List.head?_eq_getElem?]; exact ix_nat l 0
@[simp] theorem oIx_tup0 (l : List D) (st : St) : oIx (.tup l) (.int 0) st = l.head? := by
  rw [List.head?_eq_getElem?]; exact ix_nat l 0
@[simp] theorem oIx_lst1 (l : List D) (st : St) : oIx (.lst l) (.int 1) st = l[1]? := ix_nat l 1
@[simp] theorem oIx_tup1 (l : List D) (st : St) : oIx (.tup l) (.int 1) st = l[1]? := ix_nat l 1
@[simp] theorem oIx_lst2 (l : List D) (st : St) : oIx (.lst l) (.int 2) st = l[2]? := ix_nat l 2
@[simp] theorem oIx_tup2 (l : List D) (st : St) : oIx (.tup l) (.int 2) st = l[2]? := ix_nat l 2
@[simp] theorem oIx_tup3 (l : List D) (st : St) : oIx (.tup l) (.int 3) st = l[3]? := ix_nat l 3
@[simp] theorem oIx_tup4 (l : List D) (st : St) : oIx (.tup l) (.int 4) st = l[4]? := ix_nat l 4
@[simp] theorem oIx_tup5 (l : List D) (st : St) : oIx (.tup l) (.int 5) st = l[5]? := ix_nat l 5
@[simp] theorem oIx_tup6 (l : List D) (st : St) : oIx (.tup l) (.int 6) st = l[6]? := ix_nat l 6
@[simp] theorem oIx_lstm1 (l : List D) (st : St) : oIx (.lst l) (.int (-1)) st = l.getLast? := ix_m1 l
theorem oIx_str {s : List Nat} {k : Nat} {st : St} (h : s.length ≤ 16777216) : oIx (.str s) (.int (k : Int)) st = (s[k]?).map fun c => .str [c] := by
  show (if s.length ≤ LN then _ else none) = _
  rw [if_pos (show s.length ≤ LN from h), ixN_nat]
  by_cases h' : k < s.length
  · rw [if_pos h']; rfl
  · rw [if_neg h', List.getElem?_eq_none (by omega)]; rfl
theorem oIx_ref {n : Nat} {i : Int} {st : St} {l : List D} (h : asO st[n]? = some l) : oIx (.ref n) (.int i) st = oIx (.lst l) (.int i) st := by
  show (match asL st (.ref n) with | some l => (ixN l.length i).bind fun j => l[j]? | none => none) = _
  rw [asL_ref, h]; rfl

/-! ### slices -/
def slK (lo hi : Option Int) (x : Option (List D)) (st : St) : RA := match x with
  | some xs => .ok (cut xs lo hi) st
  | none => .stuck
@[simp] theorem slK_some (lo hi : Option Int) (xs : List D) (st : St) : slK lo hi (some xs) st = .ok (cut xs lo hi) st := id rfl
def sl3 (x : D) (lo hi : Option Int) (st : St) : RA := slK lo hi (asL st x) st
def sl2 (x : D) (hi : Option EM) (env : Env) (lo : Option Int) (st : St) : RA := (xPart hi env st).bind (sl3 x lo)
def sl1 (lo hi : Option EM) (env : Env) (x : D) (st : St) : RA := (xPart lo env st).bind (sl2 x hi env)
@[simp] theorem ap_sl (f : EM) (lo hi : Option EM) (env : Env) (st : St) : lSl f lo hi env st = (f env st).bind (sl1 lo hi env) := id rfl
@[simp] theorem ap_sl1 (lo hi : Option EM) (env : Env) (x : D) (st : St) : sl1 lo hi env x st = (xPart lo env st).bind (sl2 x hi env) := id rfl
@[simp] theorem ap_sl2 (x : D) (hi : Option EM) (env : Env) (lo : Option Int) (st : St) : sl2 x hi env lo st = (xPart hi env st).bind (sl3 x lo) := id rfl
@[simp] theorem ap_sl3 (x : D) (lo hi : Option Int) (st : St) : sl3 x lo hi st = slK lo hi (asL st x) st := id rfl
def prt1 (x : D) (st : St) : RR (Option Int) := match x with
  | .int i => .ok (some i) st
  | _ => .stuck
@[simp] theorem ap_prtn (env : Env) (st : St) : xPart none env st = .ok none st := id rfl
@[simp] theorem ap_prts (f : EM) (env : Env) (st : St) : xPart (some f) env st = (f env st).bind prt1 := id rfl
@[simp] theorem ap_prt1 (i : Int) (st : St) : prt1 (.int i) st = .ok (some i) st := id rfl
def xs3 (x : D) (lo hi : Option Int) (st : St) : RE := match x with
  | .str s => if s.length ≤ LN then .ok (.str (cut s lo hi)) st else .stuck
  | .tup xs => .ok (.tup (cut xs lo hi)) st
  | _ => .stuck
def xs2 (x : D) (hi : Option EM) (env : Env) (lo : Option Int) (st : St) : RE := (xPart hi env st).bind (xs3 x lo)
def xs1 (lo hi : Option EM) (env : Env) (x : D) (st : St) : RE := (xPart lo env st).bind (xs2 x hi env)
@[simp] theorem ap_xsl (f : EM) (lo hi : Option EM) (env : Env) (st : St) : xSl f lo hi env st = (f env st).bind (xs1 lo hi env) := id rfl
@[simp] theorem ap_xs1 (lo hi : Option EM) (env : Env) (x : D) (st : St) : xs1 lo hi env x st = (xPart lo env st).bind (xs2 x hi env) := id rfl
@[simp] theorem ap_xs2 (x : D) (hi : Option EM) (env : Env) (lo : Option Int) (st : St) : xs2 x hi env lo st = (xPart hi env st).bind (xs3 x lo) := id rfl
@[simp] theorem xs3_tup (xs : List D) (lo hi : Option Int) (st : St) : xs3 (.tup xs) lo hi st = .ok (.tup (cut xs lo hi)) st := id rfl
theorem xs3_str {s : List Nat} {lo hi : Option Int} {st : St} (h : s.length ≤ 16777216) : xs3 (.str s) lo hi st = .ok (.str (cut s lo hi)) st := if_pos h
def cat3 (a b : Option (List D)) (st : St) : RA := match a, b with
  | some a, some b => if a.length + b.length ≤ LN then .ok (a ++ b) st else .stuck
  | _, _ => .stuck
def cat2 (x y : D) (st : St) : RA := cat3 (asL st x) (asL st y) st
def cat1 (g : EM) (env : Env) (x : D) (st : St) : RA := (g env st).bind (cat2 x)
@[simp] theorem ap_cat (f g : EM) (env : Env) (st : St) : lCat f g env st = (f env st).bind (cat1 g env) := id rfl
@[simp] theorem ap_cat1 (g : EM) (env : Env) (x : D) (st : St) : cat1 g env x st = (g env st).bind (cat2 x) := id rfl
@[simp] theorem ap_cat2 (x y : D) (st : St) : cat2 x y st = cat3 (asL st x) (asL st y) st := id rfl
theorem cat3_ok {a b : List D} {st : St} (h : a.length + b.length ≤ 16777216) : cat3 (some a) (some b) st = .ok (a ++ b) st := if_pos h
section
variable {γ : Type}
theorem sIx_nat (n d k : Nat) : sIx n d (some (k : Int)) = min k n := by
  simp only [sIx]
  rw [if_neg (by omega), Int.toNat_natCast]
theorem sIx_m1 (n d : Nat) : sIx n d (some (-1)) = n - 1 := by
  simp only [sIx]
  rw [if_pos (by omega)]; omega
@[simp] theorem cut_take (l : List γ) (n : Nat) : cut l none (some (n : Int)) = l.take n := by
  unfold cut
  show (l.drop 0).take (sIx l.length l.length (some (n : Int)) - 0) = _
  rw [sIx_nat]
  simp only [List.drop_zero, Nat.sub_zero]
  by_cases h : n ≤ l.length
  · rw [Nat.min_eq_left h]
  · rw [Nat.min_eq_right (by omega), List.take_of_length_le (Nat.le_refl _), List.take_of_length_le (by omega)]
@[simp] theorem cut_take1 (l : List γ) : cut l none (some 1) = l.take 1 := cut_take l 1
@[simp] theorem cut_take2 (l : List γ) : cut l none (some 2) = l.take 2 := cut_take l 2
@[simp] theorem cut_drop (l : List γ) (n : Nat) : cut l (some (n : Int)) none = l.drop n := by
  unfold cut
  show (l.drop (sIx l.length 0 (some (n : Int)))).take (l.length - _) = _
  rw [sIx_nat]
  by_cases h : n ≤ l.length
  · rw [Nat.min_eq_left h, List.take_of_length_le (by simp)]
  · rw [Nat.min_eq_right (by omega), List.drop_of_length_le (Nat.le_refl _), List.drop_of_length_le (by omega)]; simp
@[simp] theorem cut_drop1 (l : List γ) : cut l (some 1) none = l.drop 1 := cut_drop l 1
@[simp] theorem cut_drop2 (l : List γ) : cut l (some 2) none = l.drop 2 := cut_drop l 2
@[simp] theorem cut_init (l : List γ) : cut l none (some (-1)) = l.dropLast := by
  unfold cut
  show (l.drop 0).take (sIx l.length l.length (some (-1)) - 0) = _
  rw [sIx_m1, List.dropLast_eq_take]
  simp only [List.drop_zero, Nat.sub_zero]
end

/-! ### calls, built-in functions -/
def blt1 (o : List D → St → Option D) (ds : List D) (st : St) : RE := ofO (o ds st) st
@[simp] theorem ap_call (c : Calls) (f : Nat) (a : AM) (env : Env) (st : St) : xCall c f a env st = (a env st).bind (c f) := id rfl
@[simp] theorem ap_blt (o : List D → St → Option D) (a : AM) (env : Env) (st : St) : xB o a env st = (a env st).bind (blt1 o) := id rfl
@[simp] theorem ap_blt1 (o : List D → St → Option D) (ds : List D) (st : St) : blt1 o ds st = ofO (o ds st) st := id rfl
@[simp] theorem bLen_lst (l : List D) (st : St) : bLen [.lst l] st = some (.int l.length) := id rfl
@[simp] theorem bLen_tup (l : List D) (st : St) : bLen [.tup l] st = some (.int l.length) := id rfl
theorem bLen_str {s : List Nat} {st : St} (h : s.length ≤ 16777216) : bLen [.str s] st = some (.int s.length) := if_pos h
def lenO (o : Option (List D)) : Option D := match o with
  | some l => some (.int l.length)
  | none => none
@[simp] theorem lenO_some (l : List D) : lenO (some l) = some (.int l.length) := id rfl
@[simp] theorem bLen_ref (n : Nat) (st : St) : bLen [.ref n] st = lenO (asO st[n]?) := by
  show (match asL st (.ref n) with | some l => some (D.int l.length) | none => none) = _
  rw [asL_ref]; rfl
@[simp] theorem bOrd_str (c : Nat) (st : St) : bOrd [.str [c]] st = some (.int c) := id rfl
@[simp] theorem blsOf_map {γ : Type} (l : List γ) (p : γ → Bool) : blsOf (l.map fun a => .bl (p a)) = some (l.map p) := by
  induction l with
  | nil => rfl
  | cons a l ih => show (blsOf (l.map fun a => .bl (p a))).map (fun bs => p a :: bs) = _; rw [ih]; rfl
@[simp] theorem bAll_map {γ : Type} (l : List γ) (p : γ → Bool) (st : St) : bAll [.lst (l.map fun a => .bl (p a))] st = some (.bl (l.all p)) := by
  show (blsOf (l.map fun a => .bl (p a))).map (fun bs => D.bl (bs.all id)) = _
  rw [blsOf_map]; simp
@[simp] theorem bAny_map {γ : Type} (l : List γ) (p : γ → Bool) (st : St) : bAny [.lst (l.map fun a => .bl (p a))] st = some (.bl (l.any p)) := by
  show (blsOf (l.map fun a => .bl (p a))).map (fun bs => D.bl (bs.any id)) = _
  rw [blsOf_map]; simp
def isi1 (ans : D → St → Option Bool) (x : D) (st : St) : RE := ofO ((ans x st).map D.bl) st
@[simp] theorem ap_isi (ans : D → St → Option Bool) (f : EM) (env : Env) (st : St) : xIsi ans f env st = (f env st).bind (isi1 ans) := id rfl
@[simp] theorem ap_isi1 (ans : D → St → Option Bool) (x : D) (st : St) : isi1 ans x st = ofO ((ans x st).map D.bl) st := id rfl
@[simp] theorem isiE_exc (sub : Nat → Option Bool) (c : Nat) (st : St) : isiE sub (.exc c) st = sub c := id rfl
def bm2 (o : Op2) (x : D) (y : D) (st : St) : RE := ofO (o x y st) st
def bm1 (ty : D → St → Bool) (o : Op2) (g : EM) (env : Env) (x : D) (st : St) : RE := if ty x st then (g env st).bind (bm2 o x) else .stuck
@[simp] theorem ap_bm (ty : D → St → Bool) (o : Op2) (f g : EM) (env : Env) (st : St) : xBm ty o f g env st = (f env st).bind (bm1 ty o g env) := id rfl
@[simp] theorem ap_bm1s (o : Op2) (g : EM) (env : Env) (s : List Nat) (st : St) : bm1 isStr o g env (.str s) st = (g env st).bind (bm2 o (.str s)) := id rfl
@[simp] theorem ap_bm1l (o : Op2) (g : EM) (env : Env) (s : List D) (st : St) : bm1 isLst o g env (.lst s) st = (g env st).bind (bm2 o (.lst s)) := id rfl
@[simp] theorem ap_bm2 (o : Op2) (x : D) (y : D) (st : St) : bm2 o x y st = ofO (o x y st) st := id rfl
@[simp] theorem oStarts_str (x y : List Nat) (st : St) : oStarts (.str x) (.str y) st = some (.bl (y.isPrefixOf x)) := id rfl
def spl2 (x : D) (y : D) (st : St) : RA := ofL (splitD x y) st
def spl1 (g : EM) (env : Env) (x : D) (st : St) : RA := if isStr x st then (g env st).bind (spl2 x) else .stuck
@[simp] theorem ap_split (f g : EM) (env : Env) (st : St) : lSplit f g env st = (f env st).bind (spl1 g env) := id rfl
@[simp] theorem ap_spl1 (g : EM) (env : Env) (s : List Nat) (st : St) : spl1 g env (.str s) st = (g env st).bind (spl2 (.str s)) := id rfl
theorem spl2_ok {s : List Nat} {c : Nat} {st : St} (h : s.length + 2 ≤ 16777216) (hc : c < 256) : spl2 (.str s) (.str [c]) st = .ok ((splitL c s).map D.str) st := by
  show ofL (if s.length + 2 ≤ LN ∧ c < 256 then _ else none) st = _
  rw [if_pos ⟨h, hc⟩]; rfl
theorem strsOf_map (l : List (List Nat)) : strsOf (l.map D.str) = some l := by
  induction l with
  | nil => rfl
  | cons a l ih => show (strsOf (l.map D.str)).map (fun ss => a :: ss) = _; rw [ih]; rfl
theorem oJoin_ok {s : List Nat} {y : D} {l : List (List Nat)} {st : St} (hy : asL st y = some (l.map D.str)) (h : (l.map List.length).sum + l.length * s.length ≤ 16777216) : oJoin (.str s) y st = some (.str (joinS s l)) := by
  unfold oJoin
  simp only [hy, strsOf_map]
  exact if_pos h
def app3 (o : Option Ob) (n : Nat) (y : D) (st : St) : RE := match o with
  | some (.ml l) => if l.length < LN then .ok .non (st.set n (.ml (l ++ [y]))) else .stuck
  | _ => .stuck
theorem app3_ok {l : List D} {n : Nat} {y : D} {st : St} (h : l.length < 16777216) : app3 (some (.ml l)) n y st = .ok .non (st.set n (.ml (l ++ [y]))) := if_pos h
def app2 (n : Nat) (y : D) (st : St) : RE := app3 st[n]? n y st
def app1 (g : EM) (env : Env) (x : D) (st : St) : RE := if isLst x st then (match x with
  | .ref n => (g env st).bind (app2 n)
  | _ => (g env st).bind fun _ _ => .stuck) else .stuck
@[simp] theorem ap_app (f g : EM) (env : Env) (st : St) : xApp f g env st = (f env st).bind (app1 g env) := by
  show (f env st).bind _ = _
  congr 1; funext x st; unfold app1
  split
  · cases x <;> rfl
  · rfl
theorem app1_ok {g : EM} {env : Env} {n : Nat} {st : St} {l : List D} (h : st[n]? = some (.ml l)) : app1 g env (.ref n) st = (g env st).bind (app2 n) := by
  unfold app1 isLst
  rw [asL_ref, h]; rfl
@[simp] theorem ap_app2 (n : Nat) (y : D) (st : St) : app2 n y st = app3 st[n]? n y st := id rfl

/-! ### statements -/
@[simp] theorem ap_skip (env : Env) (st : St) : sSkip env st = .nx env st := id rfl
@[simp] theorem ap_seq (a b : SM) (env : Env) (st : St) : sSeq a b env st = (a env st).seq b := id rfl
def set1 (i : Nat) (env : Env) (d : D) (st : St) : RS := .nx (env.set i (some d)) st
@[simp] theorem ap_set (i : Nat) (f : EM) (env : Env) (st : St) : sSet i f env st = (f env st).bindS env (set1 i env) := id rfl
@[simp] theorem ap_set1 (i : Nat) (env : Env) (d : D) (st : St) : set1 i env d st = .nx (env.set i (some d)) st := id rfl
def tgt2 (o : Option Env) (st : St) : RS := match o with
  | some env => .nx env st
  | none => .stuck
def tgt1 (t : Tg) (env : Env) (d : D) (st : St) : RS := tgt2 (t.put d env st) st
@[simp] theorem ap_tgt (t : Tg) (f : EM) (env : Env) (st : St) : sTgt t f env st = (f env st).bindS env (tgt1 t env) := id rfl
@[simp] theorem ap_tgt1 (t : Tg) (env : Env) (d : D) (st : St) : tgt1 t env d st = tgt2 (t.put d env st) st := id rfl
@[simp] theorem ap_tgt2 (env : Env) (st : St) : tgt2 (some env) st = .nx env st := id rfl
@[simp] theorem put_name (i : Nat) (d : D) (env : Env) (st : St) : (Tg.name i).put d env st = some (env.set i (some d)) := id rfl
theorem put_tup {is : List Nat} {ds : List D} {env : Env} {st : St} (h : ds.length = is.length) : (Tg.tup is).put (.tup ds) env st = some (setAll is ds env) := if_pos h
@[simp] theorem put_tup2 (i j : Nat) (d e : D) (env : Env) (st : St) : (Tg.tup [i, j]).put (.tup [d, e]) env st = some ((env.set i (some d)).set j (some e)) := id rfl
@[simp] theorem put_tup3 (i j k : Nat) (d e f : D) (env : Env) (st : St) : (Tg.tup [i, j, k]).put (.tup [d, e, f]) env st = some (((env.set i (some d)).set j (some e)).set k (some f)) := id rfl
@[simp] theorem put_tup4 (i j k l : Nat) (d e f g : D) (env : Env) (st : St) : (Tg.tup [i, j, k, l]).put (.tup [d, e, f, g]) env st = some ((((env.set i (some d)).set j (some e)).set k (some f)).set l (some g)) := id rfl
def exp1 (env : Env) (_ : D) (st : St) : RS := .nx env st
@[simp] theorem ap_expr (f : EM) (env : Env) (st : St) : sExpr f env st = (f env st).bindS env (exp1 env) := id rfl
@[simp] theorem ap_exp1 (env : Env) (d : D) (st : St) : exp1 env d st = .nx env st := id rfl
def ret1 (d : D) (st : St) : RS := .ret d st
@[simp] theorem ap_ret (f : EM) (env : Env) (st : St) : sRet f env st = (f env st).bindS env ret1 := id rfl
@[simp] theorem ap_ret1 (d : D) (st : St) : ret1 d st = .ret d st := id rfl
@[simp] theorem ap_retN (env : Env) (st : St) : sRetN env st = .ret .non st := id rfl
@[simp] theorem ap_brk (env : Env) (st : St) : sBrk env st = .brk env st := id rfl
@[simp] theorem ap_raise (c : Nat) (env : Env) (st : St) : sRaise c env st = .exn c env st := id rfl
def sif2 (a b : SM) (env : Env) (o : Option Bool) (st : St) : RS := match o with
  | some true => a env st
  | some false => b env st
  | none => .stuck
def sif1 (a b : SM) (env : Env) (x : D) (st : St) : RS := sif2 a b env (truthy st x) st
@[simp] theorem ap_sif (c : EM) (a b : SM) (env : Env) (st : St) : sIf c a b env st = (c env st).bindS env (sif1 a b env) := id rfl
@[simp] theorem ap_sif1 (a b : SM) (env : Env) (x : D) (st : St) : sif1 a b env x st = sif2 a b env (truthy st x) st := id rfl
@[simp] theorem sif2_t (a b : SM) (env : Env) (st : St) : sif2 a b env (some true) st = a env st := id rfl
@[simp] theorem sif2_f (a b : SM) (env : Env) (st : St) : sif2 a b env (some false) st = b env st := id rfl
@[simp low] theorem sif2_b (a b : SM) (env : Env) (p : Bool) (st : St) : sif2 a b env (some p) st = if p = true then a env st else b env st := by cases p <;> rfl
def stl3 (o : Option Nat) (l : List D) (n : Nat) (y : D) (env : Env) (st : St) : RS := match o with
  | some j => .nx env (st.set n (.ml (l.set j y)))
  | none => .stuck
@[simp] theorem stl3_some (j : Nat) (l : List D) (n : Nat) (y : D) (env : Env) (st : St) : stl3 (some j) l n y env st = .nx env (st.set n (.ml (l.set j y))) := id rfl
def stl2 (y x : D) (env : Env) (k : D) (st : St) : RS := match x, k with
  | .ref n, .int i => match st[n]? with
    | some (.ml l) => stl3 (ixN l.length i) l n y env st
    | _ => .stuck
  | _, _ => .stuck
def stl1 (g : EM) (y : D) (env : Env) (x : D) (st : St) : RS := (g env st).bindS env (stl2 y x env)
def stl0 (f g : EM) (env : Env) (y : D) (st : St) : RS := (f env st).bindS env (stl1 g y env)
@[simp] theorem ap_stl (f g e : EM) (env : Env) (st : St) : sSetL f g e env st = (e env st).bindS env (stl0 f g env) := id rfl
@[simp] theorem ap_stl0 (f g : EM) (env : Env) (y : D) (st : St) : stl0 f g env y st = (f env st).bindS env (stl1 g y env) := id rfl
@[simp] theorem ap_stl1 (g : EM) (y : D) (env : Env) (x : D) (st : St) : stl1 g y env x st = (g env st).bindS env (stl2 y x env) := id rfl
theorem stl2_ok {n : Nat} {i : Int} {l : List D} {y : D} {env : Env} {st : St} (h : st[n]? = some (.ml l)) : stl2 y (.ref n) env (.int i) st = stl3 (ixN l.length i) l n y env st := by
  unfold stl2; simp only [h]
def tryH (o : Option Bool) (hd : Nat → Env → St → RS) (c : Nat) (env : Env) (st : St) : RS := match o with
  | some true => hd c env st
  | some false => .exn c env st
  | none => .stuck
def tryK (takes : Nat → Option Bool) (hd : Nat → Env → St → RS) (r : RS) : RS := match r with
  | .exn c env2 st2 => tryH (takes c) hd c env2 st2
  | r => r
@[simp] theorem ap_try (b : SM) (takes : Nat → Option Bool) (hd : Nat → Env → St → RS) (env : Env) (st : St) : sTry b takes hd env st = tryK takes hd (b env st) := id rfl
section
variable (takes : Nat → Option Bool) (hd : Nat → Env → St → RS)
@[simp] theorem tryK_nx (env : Env) (st : St) : tryK takes hd (.nx env st) = .nx env st := id rfl
@[simp] theorem tryK_ret (d : D) (st : St) : tryK takes hd (.ret d st) = .ret d st := id rfl
@[simp] theorem tryK_exn (c : Nat) (env : Env) (st : St) : tryK takes hd (.exn c env st) = tryH (takes c) hd c env st := id rfl
@[simp] theorem tryK_ite {p : Prop} [Decidable p] (a b : RS) : tryK takes hd (if p then a else b) = if p then tryK takes hd a else tryK takes hd b := by split <;> rfl
@[simp] theorem tryH_t (c : Nat) (env : Env) (st : St) : tryH (some true) hd c env st = hd c env st := id rfl
@[simp] theorem tryH_f (c : Nat) (env : Env) (st : St) : tryH (some false) hd c env st = .exn c env st := id rfl
end
def hdK (i : Nat) (r : RS) : RS := match r with
  | .nx env3 st3 => .nx (env3.set i none) st3
  | .brk env3 st3 => .brk (env3.set i none) st3
  | .exn _ _ _ => .stuck
  | r => r
@[simp] theorem ap_hdAs (i : Nat) (h : SM) (c : Nat) (env : Env) (st : St) : hdAs i h c env st = hdK i (h (env.set i (some (.exc c))) st) := id rfl
@[simp] theorem hdK_nx (i : Nat) (env : Env) (st : St) : hdK i (.nx env st) = .nx (env.set i none) st := id rfl
@[simp] theorem hdK_ret (i : Nat) (d : D) (st : St) : hdK i (.ret d st) = .ret d st := id rfl
def fin (r : RS) : RE := match r with
  | .nx _ st => .ok .non st
  | .ret d st => .ok d st
  | .exn c _ st => .exn c st
  | _ => .stuck
@[simp] theorem fin_nx (env : Env) (st : St) : fin (.nx env st) = .ok .non st := id rfl
@[simp] theorem fin_ret (d : D) (st : St) : fin (.ret d st) = .ok d st := id rfl
@[simp] theorem fin_exn (c : Nat) (env : Env) (st : St) : fin (.exn c env st) = .exn c st := id rfl
@[simp] theorem fin_ite {p : Prop} [Decidable p] (a b : RS) : fin (if p then a else b) = if p then fin a else fin b := by split <;> rfl
theorem ap_body {n slots : Nat} {s : SM} {ds : List D} {st : St} (h : ds.length = n) : body n slots s ds st = fin (s (ds.map some ++ List.replicate (slots - ds.length) none) st) := if_pos h

/-! ### what is walked -/
def wk1 (o : Option Wk) (st : St) : RWk := match o with
  | some w => .ok w st
  | none => .stuck
@[simp] theorem wk1_some (w : Wk) (st : St) : wk1 (some w) st = .ok w st := id rfl
def ival1 (x : D) (st : St) : RWk := wk1 (wkOf x st) st
@[simp] theorem ap_ival (f : EM) (env : Env) (st : St) : iVal f env st = (f env st).bind ival1 := id rfl
@[simp] theorem ap_ival1 (x : D) (st : St) : ival1 x st = wk1 (wkOf x st) st := id rfl
@[simp] theorem wk_lst (l : List D) (st : St) : wkOf (.lst l) st = some (.data l) := id rfl
@[simp] theorem wk_tup (l : List D) (st : St) : wkOf (.tup l) st = some (.data l) := id rfl
theorem wk_str {s : List Nat} {st : St} (h : s.length ≤ 16777216) : wkOf (.str s) st = some (.data (s.map fun c => .str [c])) := if_pos h
def wkO (o : Option Ob) (n : Nat) : Option Wk := match o with
  | some (.ml _) => some (.obj n)
  | some (.fz l) => some (.data l)
  | _ => none
@[simp] theorem wk_ref (n : Nat) (st : St) : wkOf (.ref n) st = wkO st[n]? n := by
  show (match st[n]? with | some (.ml _) => some (Wk.obj n) | some (.fz l) => some (.data l) | _ => none) = _; rfl
@[simp] theorem wkO_ml (l : List D) (n : Nat) : wkO (some (.ml l)) n = some (.obj n) := id rfl
@[simp] theorem wkO_fz (l : List D) (n : Nat) : wkO (some (.fz l)) n = some (.data l) := id rfl
def rng1 (x : D) (st : St) : RWk := match x with
  | .int j => if -(2 ^ 62) ≤ j ∧ j < 2 ^ 62 then .ok (.data (rng 0 j.toNat)) st else .stuck
  | _ => .stuck
@[simp] theorem ap_rng1 (f : EM) (env : Env) (st : St) : iRng1 f env st = (f env st).bind rng1 := id rfl
theorem rng_map (i : Int) (n : Nat) : rng i n = (List.range n).map fun (k : Nat) => D.int (i + k) := by
  induction n generalizing i with
  | zero => rfl
  | succ n ih =>
    rw [List.range_succ_eq_map, List.map_cons, List.map_map]
    show D.int i :: rng (i + 1) n = _
    rw [ih]
    congr 1
    · simp
    · apply List.map_congr_left; intro a _; simp only [Function.comp]; congr 1; omega
theorem rng1_ok {n : Nat} {st : St} (h : n < 2 ^ 62) : rng1 (.int (n : Int)) st = .ok (.data ((List.range n).map fun (k : Nat) => D.int (k : Int))) st := by
  unfold rng1
  simp only
  rw [if_pos ⟨by omega, by omega⟩, Int.toNat_natCast, rng_map]
  simp only [Int.zero_add]

/-! ### comprehensions -/
def comp1 (t : Tg) (c : Option EM) (e : EM) (own : List Nat) (env : Env) (w : Wk) (st : St) : RA := match w with
  | .data l => cData t c e (wipe env own) l [] st
  | .obj n => cObj t c e (wipe env own) n FU 0 [] st
@[simp] theorem ap_comp (it : IM) (t : Tg) (c : Option EM) (e : EM) (own : List Nat) (env : Env) (st : St) : lComp it t c e own env st = (it env st).bind (comp1 t c e own env) := id rfl
@[simp] theorem comp1_data (t : Tg) (c : Option EM) (e : EM) (own : List Nat) (env : Env) (l : List D) (st : St) : comp1 t c e own env (.data l) st = cData t c e (wipe env own) l [] st := id rfl
@[simp] theorem comp1_obj (t : Tg) (c : Option EM) (e : EM) (own : List Nat) (env : Env) (n : Nat) (st : St) : comp1 t c e own env (.obj n) st = cObj t c e (wipe env own) n FU 0 [] st := id rfl
@[simp] theorem wipe_nil (env : Env) : wipe env [] = env := id rfl
@[simp] theorem wipe_cons (env : Env) (v : Nat) (vs : List Nat) : wipe env (v :: vs) = (wipe env vs).set v none := id rfl
/-- turns that leave the store alone -/
theorem cData_map {γ : Type} {t : Tg} {e : EM} {env : Env} {st : St} (f g : γ → D) (l : List γ) (acc : List D)
    (h : ∀ a ∈ l, ∃ env1, t.put (f a) env st = some env1 ∧ e env1 st = .ok (g a) st) (hl : acc.length + l.length ≤ 16777216) :
    cData t none e env (l.map f) acc st = .ok (acc ++ l.map g) st := by
  induction l generalizing acc with
  | nil => simp [cData]
  | cons a l ih =>
    obtain ⟨env1, h1, h2⟩ := h a List.mem_cons_self
    show (cTurn t none e env (f a) st).bind _ = _
    have ht : cTurn t none e env (f a) st = .ok (some (g a)) st := by
      unfold cTurn; rw [h1]; show (noX (e env1 st)).bind _ = _; rw [h2]; rfl
    rw [ht]
    show (if acc.length < LN then cData t none e env (l.map f) (acc ++ [g a]) st else .stuck) = _
    have hl' : acc.length + (l.length + 1) ≤ 16777216 := hl
    rw [if_pos (show acc.length < LN by show _ < 16777216; omega), ih _ (fun b hb => h b (List.mem_cons_of_mem _ hb)) (by simp; omega)]
    simp
theorem cData_filter {γ : Type} {t : Tg} {c e : EM} {env : Env} {st : St} (f g : γ → D) (p : γ → Bool) (l : List γ) (acc : List D)
    (h : ∀ a ∈ l, ∃ env1, t.put (f a) env st = some env1 ∧ (∃ x, c env1 st = .ok x st ∧ truthy st x = some (p a)) ∧ (p a = true → e env1 st = .ok (g a) st)) (hl : acc.length + l.length ≤ 16777216) :
    cData t (some c) e env (l.map f) acc st = .ok (acc ++ (l.filter p).map g) st := by
  induction l generalizing acc with
  | nil => simp [cData]
  | cons a l ih =>
    obtain ⟨env1, h1, ⟨x, h2, h3⟩, h4⟩ := h a List.mem_cons_self
    have hl' : acc.length + (l.length + 1) ≤ 16777216 := hl
    have ih' := fun acc hl => ih acc (fun b hb => h b (List.mem_cons_of_mem _ hb)) hl
    show (cTurn t (some c) e env (f a) st).bind _ = _
    cases hp : p a with
    | true =>
      have ht : cTurn t (some c) e env (f a) st = .ok (some (g a)) st := by
        unfold cTurn; rw [h1]; show (noX (c env1 st)).bind _ = _; rw [h2]
        show (match truthy st x with | some true => _ | some false => _ | none => _) = _
        rw [h3, hp]; show (noX (e env1 st)).bind _ = _; rw [h4 hp]; rfl
      rw [ht]
      show (if acc.length < LN then cData t (some c) e env (l.map f) (acc ++ [g a]) st else .stuck) = _
      rw [if_pos (show acc.length < LN by show _ < 16777216; omega), ih' _ (by simp; omega)]
      simp [hp]
    | false =>
      have ht : cTurn t (some c) e env (f a) st = .ok none st := by
        unfold cTurn; rw [h1]; show (noX (c env1 st)).bind _ = _; rw [h2]
        show (match truthy st x with | some true => _ | some false => _ | none => _) = _
        rw [h3, hp]
      rw [ht]
      show cData t (some c) e env (l.map f) acc st = _
      rw [ih' _ (by omega)]
      simp [hp]
/-- turns that change the store; I holds of the turns left, of what is gathered, of the store -/
theorem cData_inv {γ : Type} {t : Tg} {e : EM} {env : Env} (f : γ → D) (I : Nat → List D → St → Prop) (l : List γ) (acc : List D) (st : St) (i : I l.length acc st)
    (h : ∀ a ∈ l, ∀ n acc st, I (n + 1) acc st → ∃ env1 y st', t.put (f a) env st = some env1 ∧ e env1 st = .ok y st' ∧ I n (acc ++ [y]) st') (hl : acc.length + l.length ≤ 16777216) :
    ∃ acc' st', cData t none e env (l.map f) acc st = .ok acc' st' ∧ I 0 acc' st' := by
  induction l generalizing acc st with
  | nil => exact ⟨acc, st, rfl, i⟩
  | cons a l ih =>
    obtain ⟨env1, y, st', h1, h2, h3⟩ := h a List.mem_cons_self _ acc st i
    have hl' : acc.length + (l.length + 1) ≤ 16777216 := hl
    obtain ⟨acc', st'', h4, h5⟩ := ih (acc ++ [y]) st' h3 (fun b hb => h b (List.mem_cons_of_mem _ hb)) (by simp; omega)
    refine ⟨acc', st'', ?_, h5⟩
    show (cTurn t none e env (f a) st).bind _ = _
    have ht : cTurn t none e env (f a) st = .ok (some y) st' := by
      unfold cTurn; rw [h1]; show (noX (e env1 st)).bind _ = _; rw [h2]; rfl
    rw [ht]
    show (if acc.length < LN then cData t none e env (l.map f) (acc ++ [y]) st' else .stuck) = _
    rw [if_pos (show acc.length < LN by show _ < 16777216; omega)]
    exact h4
/-- a list of the store that isn't changed meanwhile -/
theorem cObj_inv {t : Tg} {e : EM} {env : Env} {n : Nat} (l : List D) (I : Nat → List D → St → Prop) (hm : ∀ k acc st, I k acc st → st[n]? = some (.ml l))
    (h : ∀ d ∈ l, ∀ k acc st, I (k + 1) acc st → ∃ env1 y st', t.put d env st = some env1 ∧ e env1 st = .ok y st' ∧ I k (acc ++ [y]) st')
    (k : Nat) (i : Nat) (acc : List D) (st : St) (hk : i + k = l.length) (hi : I k acc st) (fuel : Nat) (hf : k < fuel) (hl : acc.length + k ≤ 16777216) :
    ∃ acc' st', cObj t none e env n fuel i acc st = .ok acc' st' ∧ I 0 acc' st' := by
  induction k generalizing i acc st fuel with
  | zero =>
    obtain ⟨fuel, rfl⟩ : ∃ m, fuel = m + 1 := ⟨fuel - 1, by omega⟩
    refine ⟨acc, st, ?_, hi⟩
    unfold cObj
    rw [hm _ _ _ hi]
    have : l[i]? = none := by simp; omega
    simp only [this]
  | succ k ih =>
    obtain ⟨fuel, rfl⟩ : ∃ m, fuel = m + 1 := ⟨fuel - 1, by omega⟩
    have hd : l[i]? = some l[i] := List.getElem?_eq_getElem (by omega)
    obtain ⟨env1, y, st', h1, h2, h3⟩ := h (l[i]'(by omega)) (List.getElem_mem _) k acc st hi
    obtain ⟨acc', st'', h4, h5⟩ := ih (i + 1) (acc ++ [y]) st' (by omega) h3 fuel (by omega) (by simp; omega)
    refine ⟨acc', st'', ?_, h5⟩
    unfold cObj
    rw [hm _ _ _ hi]
    simp only [hd]
    have ht : cTurn t none e env (l[i]'(by omega)) st = .ok (some y) st' := by
      unfold cTurn; rw [h1]; show (noX (e env1 st)).bind _ = _; rw [h2]; rfl
    rw [ht]
    show (if acc.length < LN then cObj t none e env n fuel (i + 1) (acc ++ [y]) st' else .stuck) = _
    rw [if_pos (show acc.length < LN by show _ < 16777216; omega)]
    exact h4

/-- .. and turns that leave the store alone -/
theorem cObj_map {γ : Type} {t : Tg} {e : EM} {env : Env} {st : St} {n : Nat} (f g : γ → D) (l : List γ) (hm : st[n]? = some (.ml (l.map f)))
    (h : ∀ a ∈ l, ∃ env1, t.put (f a) env st = some env1 ∧ e env1 st = .ok (g a) st) (hl : l.length < 100000) :
    cObj t none e env n FU 0 [] st = .ok (l.map g) st := by
  have k : ∀ m i acc fuel, i + m = l.length → m < fuel → acc.length = i → cObj t none e env n fuel i acc st = .ok (acc ++ (l.drop i).map g) st := by
    intro m
    induction m with
    | zero =>
      intro i acc fuel hi hf ha
      obtain ⟨fuel, rfl⟩ : ∃ m, fuel = m + 1 := ⟨fuel - 1, by omega⟩
      unfold cObj
      have : (l.map f)[i]? = none := by simp; omega
      simp only [hm, this, List.drop_of_length_le (show l.length ≤ i by omega), List.map_nil, List.append_nil]
    | succ m ih =>
      intro i acc fuel hi hf ha
      obtain ⟨fuel, rfl⟩ : ∃ m, fuel = m + 1 := ⟨fuel - 1, by omega⟩
      have hil : i < l.length := by omega
      obtain ⟨env1, h1, h2⟩ := h l[i] (List.getElem_mem _)
      have hd : (l.map f)[i]? = some (f l[i]) := by simp [List.getElem?_eq_getElem hil]
      unfold cObj
      simp only [hm, hd]
      have ht : cTurn t none e env (f l[i]) st = .ok (some (g l[i])) st := by
        unfold cTurn; rw [h1]; show (noX (e env1 st)).bind _ = _; rw [h2]; rfl
      rw [ht]
      show (if acc.length < LN then cObj t none e env n fuel (i + 1) (acc ++ [g l[i]]) st else .stuck) = _
      rw [if_pos (show acc.length < LN by show _ < 16777216; omega), ih (i + 1) _ fuel (by omega) (by omega) (by simp; omega)]
      rw [List.drop_eq_getElem_cons hil, List.map_cons, List.append_assoc]; rfl
  have := k l.length 0 [] FU (by omega) (by have : FU = 100000 := rfl; omega) rfl
  simpa using this

theorem cObj_filter {γ : Type} {t : Tg} {c e : EM} {env : Env} {st : St} {n : Nat} (f g : γ → D) (p : γ → Bool) (l : List γ) (hm : st[n]? = some (.ml (l.map f)))
    (h : ∀ a ∈ l, ∃ env1, t.put (f a) env st = some env1 ∧ (∃ x, c env1 st = .ok x st ∧ truthy st x = some (p a)) ∧ (p a = true → e env1 st = .ok (g a) st)) (hl : l.length < 100000) :
    cObj t (some c) e env n FU 0 [] st = .ok ((l.filter p).map g) st := by
  have k : ∀ m i acc fuel, i + m = l.length → m < fuel → acc.length ≤ i → cObj t (some c) e env n fuel i acc st = .ok (acc ++ ((l.drop i).filter p).map g) st := by
    intro m
    induction m with
    | zero =>
      intro i acc fuel hi hf ha
      obtain ⟨fuel, rfl⟩ : ∃ m, fuel = m + 1 := ⟨fuel - 1, by omega⟩
      unfold cObj
      have : (l.map f)[i]? = none := by simp; omega
      simp only [hm, this, List.drop_of_length_le (show l.length ≤ i by omega), List.filter_nil, List.map_nil, List.append_nil]
    | succ m ih =>
      intro i acc fuel hi hf ha
      obtain ⟨fuel, rfl⟩ : ∃ m, fuel = m + 1 := ⟨fuel - 1, by omega⟩
      have hil : i < l.length := by omega
      obtain ⟨env1, h1, ⟨x, h2, h3⟩, h4⟩ := h l[i] (List.getElem_mem _)
      have hd : (l.map f)[i]? = some (f l[i]) := by simp [List.getElem?_eq_getElem hil]
      unfold cObj
      simp only [hm, hd]
      rw [List.drop_eq_getElem_cons hil]
      cases hp : p l[i] with
      | true =>
        have ht : cTurn t (some c) e env (f l[i]) st = .ok (some (g l[i])) st := by
          unfold cTurn; rw [h1]; show (noX (c env1 st)).bind _ = _; rw [h2]
          show (match truthy st x with | some true => _ | some false => _ | none => _) = _
          rw [h3, hp]; show (noX (e env1 st)).bind _ = _; rw [h4 hp]; rfl
        rw [ht]
        show (if acc.length < LN then cObj t (some c) e env n fuel (i + 1) (acc ++ [g l[i]]) st else .stuck) = _
        rw [if_pos (show acc.length < LN by show _ < 16777216; omega), ih (i + 1) _ fuel (by omega) (by omega) (by simp; omega), List.filter_cons_of_pos hp, List.map_cons, List.append_assoc]
        rfl
      | false =>
        have ht : cTurn t (some c) e env (f l[i]) st = .ok none st := by
          unfold cTurn; rw [h1]; show (noX (c env1 st)).bind _ = _; rw [h2]
          show (match truthy st x with | some true => _ | some false => _ | none => _) = _
          rw [h3, hp]
        rw [ht]
        show cObj t (some c) e env n fuel (i + 1) acc st = _
        rw [ih (i + 1) _ fuel (by omega) (by omega) (by omega), List.filter_cons_of_neg (by rw [hp]; decide)]
  have := k l.length 0 [] FU (by omega) (by have : FU = 100000 := rfl; omega) (Nat.le_refl _)
  simpa using this

/-! ### for -/
def for1 (t : Tg) (b : SM) (env : Env) (w : Wk) (st : St) : RS := match w with
  | .data l => fData t b l env st
  | .obj n => fObj t b n FU 0 env st
@[simp] theorem ap_for (it : IM) (t : Tg) (b : SM) (env : Env) (st : St) : sFor it t b env st = (it env st).bindS env (for1 t b env) := id rfl
@[simp] theorem for1_data (t : Tg) (b : SM) (env : Env) (l : List D) (st : St) : for1 t b env (.data l) st = fData t b l env st := id rfl
@[simp] theorem for1_obj (t : Tg) (b : SM) (env : Env) (n : Nat) (st : St) : for1 t b env (.obj n) st = fObj t b n FU 0 env st := id rfl
/-- every turn goes on -/
theorem fData_inv {γ : Type} {t : Tg} {b : SM} (f : γ → D) (I : Nat → Env → St → Prop) (l : List γ) (env : Env) (st : St) (i : I l.length env st)
    (h : ∀ a ∈ l, ∀ n env st, I (n + 1) env st → ∃ env1 env2 st', t.put (f a) env st = some env1 ∧ b env1 st = .nx env2 st' ∧ I n env2 st') :
    ∃ env' st', fData t b (l.map f) env st = .nx env' st' ∧ I 0 env' st' := by
  induction l generalizing env st with
  | nil => exact ⟨env, st, rfl, i⟩
  | cons a l ih =>
    obtain ⟨env1, env2, st', h1, h2, h3⟩ := h a List.mem_cons_self _ env st i
    obtain ⟨env', st'', h4, h5⟩ := ih env2 st' h3 fun b hb => h b (List.mem_cons_of_mem _ hb)
    refine ⟨env', st'', ?_, h5⟩
    show (match t.put (f a) env st with | none => RS.stuck | some env1 => _) = _
    rw [h1]
    show (match b env1 st with | .nx env2 st2 => fData t b (l.map f) env2 st2 | .brk env2 st2 => .nx env2 st2 | r => r) = _
    rw [h2]
    exact h4

/-- .. told by what is left -/
theorem fData_rem {γ : Type} {t : Tg} {b : SM} (f : γ → D) (I : List γ → Env → St → Prop)
    (h : ∀ a r env st, I (a :: r) env st → ∃ env1 env2 st', t.put (f a) env st = some env1 ∧ b env1 st = .nx env2 st' ∧ I r env2 st') :
    ∀ (l : List γ) (env : Env) (st : St), I l env st → ∃ env' st', fData t b (l.map f) env st = .nx env' st' ∧ I [] env' st'
  | [], env, st, i => ⟨env, st, rfl, i⟩
  | a :: l, env, st, i => by
    obtain ⟨env1, env2, st', h1, h2, h3⟩ := h a l env st i
    obtain ⟨env', st'', h4, h5⟩ := fData_rem f I h l env2 st' h3
    refine ⟨env', st'', ?_, h5⟩
    show (match t.put (f a) env st with | none => RS.stuck | some env1 => _) = _
    rw [h1]
    show (match b env1 st with | .nx env2 st2 => fData t b (l.map f) env2 st2 | .brk env2 st2 => .nx env2 st2 | r => r) = _
    rw [h2]
    exact h4
theorem fData_nil (t : Tg) (b : SM) (env : Env) (st : St) : fData t b [] env st = .nx env st := rfl
theorem fData_nx {t : Tg} {b : SM} {d : D} {ds : List D} {env env1 env2 : Env} {st st' : St} (h1 : t.put d env st = some env1) (h2 : b env1 st = .nx env2 st') : fData t b (d :: ds) env st = fData t b ds env2 st' := by
  show (match t.put d env st with | none => RS.stuck | some env1 => _) = _
  rw [h1]
  show (match b env1 st with | .nx env2 st2 => fData t b ds env2 st2 | .brk env2 st2 => .nx env2 st2 | r => r) = _
  rw [h2]
/-- a list some times over -/
def rep3 (o : Option (List D)) (y : D) (st : St) : RA := match o, y with
  | some a, .int k => if 0 ≤ k ∧ k ≤ 1000 ∧ a.length ≤ 1000 then .ok (List.replicate k.toNat a).flatten st else .stuck
  | _, _ => .stuck
def rep2 (x y : D) (st : St) : RA := rep3 (asL st x) y st
def rep1 (g : EM) (env : Env) (x : D) (st : St) : RA := (g env st).bind (rep2 x)
@[simp] theorem ap_rep (f g : EM) (env : Env) (st : St) : lRep f g env st = (f env st).bind (rep1 g env) := by
  show (f env st).bind _ = _
  congr 1
@[simp] theorem ap_rep1 (g : EM) (env : Env) (x : D) (st : St) : rep1 g env x st = (g env st).bind (rep2 x) := id rfl
@[simp] theorem ap_rep2 (x y : D) (st : St) : rep2 x y st = rep3 (asL st x) y st := id rfl
theorem rep3_ok {a : List D} {k : Int} {st : St} (h : 0 ≤ k ∧ k ≤ 1000 ∧ a.length ≤ 1000) : rep3 (some a) (.int k) st = .ok (List.replicate k.toNat a).flatten st := if_pos h
@[simp] theorem oIs_bb (a b : Bool) (st : St) : oIs (.bl a) (.bl b) st = some (.bl (a == b)) := id rfl
@[simp] theorem oIsNot_bb (a b : Bool) (st : St) : oIsNot (.bl a) (.bl b) st = some (.bl (!(a == b))) := id rfl

/-! ### split, join -/
theorem splitL_ne (c : Nat) (s : List Nat) : splitL c s ≠ [] := by
  induction s with
  | nil => simp [splitL]
  | cons a s ih =>
    unfold splitL
    split
    · simp
    · cases h : splitL c s with
      | nil => exact absurd h ih
      | cons p ps => simp
theorem splitL_cons (c a : Nat) (s : List Nat) (h : a ≠ c) : ∃ p ps, splitL c s = p :: ps ∧ splitL c (a :: s) = (a :: p) :: ps := by
  cases hs : splitL c s with
  | nil => exact absurd hs (splitL_ne c s)
  | cons p ps => exact ⟨p, ps, rfl, by rw [splitL, if_neg h, hs]⟩
theorem splitL_same (c : Nat) (s : List Nat) : splitL c (c :: s) = [] :: splitL c s := by rw [splitL, if_pos rfl]
theorem splitL_not (c : Nat) (s : List Nat) : ∀ p ∈ splitL c s, c ∉ p := by
  induction s with
  | nil => intro p hp; simp [splitL] at hp; simp [hp]
  | cons a s ih =>
    by_cases h : a = c
    · subst h; rw [splitL_same]
      intro p hp
      rcases List.mem_cons.mp hp with rfl | hp
      · simp
      · exact ih p hp
    · obtain ⟨q, qs, h1, h2⟩ := splitL_cons c a s h
      rw [h2]; rw [h1] at ih
      intro p hp
      rcases List.mem_cons.mp hp with rfl | hp
      · intro hc
        rcases List.mem_cons.mp hc with e | hc
        · exact h e.symm
        · exact ih q List.mem_cons_self hc
      · exact ih p (List.mem_cons_of_mem _ hp)
theorem splitL_sub (c : Nat) (s : List Nat) : ∀ p ∈ splitL c s, ∀ x ∈ p, x ∈ s := by
  induction s with
  | nil => intro p hp; simp [splitL] at hp; simp [hp]
  | cons a s ih =>
    by_cases h : a = c
    · subst h; rw [splitL_same]
      intro p hp
      rcases List.mem_cons.mp hp with rfl | hp
      · simp
      · intro x hx; exact List.mem_cons_of_mem _ (ih p hp x hx)
    · obtain ⟨q, qs, h1, h2⟩ := splitL_cons c a s h
      rw [h2]; rw [h1] at ih
      intro p hp x hx
      rcases List.mem_cons.mp hp with rfl | hp
      · rcases List.mem_cons.mp hx with rfl | hx
        · exact List.mem_cons_self
        · exact List.mem_cons_of_mem _ (ih q List.mem_cons_self x hx)
      · exact List.mem_cons_of_mem _ (ih p (List.mem_cons_of_mem _ hp) x hx)
theorem splitL_len (c : Nat) (s : List Nat) : (splitL c s).length ≤ s.length + 1 ∧ ∀ p ∈ splitL c s, p.length ≤ s.length := by
  induction s with
  | nil => simp [splitL]
  | cons a s ih =>
    by_cases h : a = c
    · subst h; rw [splitL_same]
      refine ⟨by simp; exact ih.1, fun p hp => ?_⟩
      rcases List.mem_cons.mp hp with rfl | hp
      · simp
      · have := ih.2 p hp; simp; omega
    · obtain ⟨q, qs, h1, h2⟩ := splitL_cons c a s h
      rw [h2]; rw [h1] at ih
      refine ⟨by have := ih.1; simp at this ⊢; omega, fun p hp => ?_⟩
      rcases List.mem_cons.mp hp with rfl | hp
      · have := ih.2 q List.mem_cons_self; simp; omega
      · have := ih.2 p (List.mem_cons_of_mem _ hp); simp; omega
/-- joined and split again -/
theorem joinS_cons (s : List Nat) (p q : List Nat) (r : List (List Nat)) : joinS s (p :: q :: r) = p ++ (s ++ joinS s (q :: r)) := rfl
theorem splitL_app (c : Nat) (p : List Nat) (hp : c ∉ p) (s : List Nat) : ∃ q qs, splitL c s = q :: qs ∧ splitL c (p ++ s) = (p ++ q) :: qs := by
  induction p with
  | nil =>
    cases hs : splitL c s with
    | nil => exact absurd hs (splitL_ne c s)
    | cons q qs => exact ⟨q, qs, rfl, hs⟩
  | cons a p ih =>
    obtain ⟨q, qs, h1, h2⟩ := ih fun h => hp (List.mem_cons_of_mem _ h)
    obtain ⟨q', qs', h3, h4⟩ := splitL_cons c a (p ++ s) fun e => hp (e ▸ List.mem_cons_self)
    rw [h2] at h3
    cases h3
    exact ⟨q, qs, h1, h4⟩
theorem split_join (c : Nat) (l : List (List Nat)) (hl : l ≠ []) (h : ∀ p ∈ l, c ∉ p) : splitL c (joinS [c] l) = l := by
  induction l with
  | nil => exact absurd rfl hl
  | cons p l ih =>
    cases l with
    | nil =>
      show splitL c p = [p]
      obtain ⟨q, qs, h1, h2⟩ := splitL_app c p (h p List.mem_cons_self) []
      cases h1
      simpa using h2
    | cons q r =>
      rw [joinS_cons]
      obtain ⟨q', qs', h1, h2⟩ := splitL_app c p (h p List.mem_cons_self) ([c] ++ joinS [c] (q :: r))
      rw [h2]
      rw [show [c] ++ joinS [c] (q :: r) = c :: joinS [c] (q :: r) from rfl, splitL_same, ih (by simp) fun p hp => h p (List.mem_cons_of_mem _ hp)] at h1
      cases h1
      simp
theorem joinS_len (s : List Nat) (l : List (List Nat)) (m : Nat) (h : ∀ p ∈ l, p.length ≤ m) : (joinS s l).length ≤ l.length * (m + s.length) := by
  induction l with
  | nil => simp [joinS]
  | cons p l ih =>
    cases l with
    | nil => have := h p List.mem_cons_self; simp [joinS]; omega
    | cons q r =>
      rw [joinS_cons]
      have h1 := h p List.mem_cons_self
      have h2 := ih fun p hp => h p (List.mem_cons_of_mem _ hp)
      simp only [List.length_append, List.length_cons] at h2 ⊢
      rw [Nat.add_mul (r.length + 1) 1]
      omega
theorem sum_len (l : List (List Nat)) (m : Nat) (h : ∀ p ∈ l, p.length ≤ m) : (l.map List.length).sum ≤ l.length * m := by
  induction l with
  | nil => simp
  | cons p l ih =>
    have h1 := h p List.mem_cons_self
    have h2 := ih fun p hp => h p (List.mem_cons_of_mem _ hp)
    simp only [List.map_cons, List.sum_cons, List.length_cons, Nat.add_mul]
    omega
/-- lengths bounded, items bounded -/
theorem oJoin_le {s : List Nat} {y : D} {l : List (List Nat)} {st : St} (n m : Nat) (hy : asL st y = some (l.map D.str)) (hn : l.length ≤ n) (hm : ∀ p ∈ l, p.length ≤ m) (h : n * m + n * s.length ≤ 16777216) : oJoin (.str s) y st = some (.str (joinS s l)) :=
  oJoin_ok hy (by
    have h1 := sum_len l m hm
    have h2 : l.length * m ≤ n * m := Nat.mul_le_mul_right _ hn
    have h3 : l.length * s.length ≤ n * s.length := Nat.mul_le_mul_right _ hn
    omega)
theorem eqvL_strs (a b : List (List Nat)) : D.eqvL (a.map D.str) (b.map D.str) = (a == b) := by
  induction a generalizing b with
  | nil => cases b <;> rfl
  | cons x a ih =>
    cases b with
    | nil => rfl
    | cons y b =>
      show ((x == y) && D.eqvL (a.map D.str) (b.map D.str)) = _
      rw [ih]; rfl
theorem oEq_strs {a b : List (List Nat)} {st : St} (ha : ∀ p ∈ a, ∀ c ∈ p, c < 55296) (hb : ∀ p ∈ b, ∀ c ∈ p, c < 55296) : oEq (.lst (a.map D.str)) (.lst (b.map D.str)) st = some (.bl (a == b)) := by
  have k : ∀ a : List (List Nat), (∀ p ∈ a, ∀ c ∈ p, c < 55296) → (D.lst (a.map D.str)).pu 20 = true := fun a ha => by
    simp only [D.pu, List.all_eq_true, List.mem_map, forall_exists_index, and_imp, decide_eq_true_eq]
    rintro _ p hp rfl
    simp only [D.pu, List.all_eq_true, decide_eq_true_eq]
    exact ha p hp
  show (eqD (.lst (a.map D.str)) (.lst (b.map D.str))).map D.bl = _
  rw [oEq_pu (st := st) (k a ha) (k b hb)]
  show some (D.bl (D.eqvL _ _)) = _
  rw [eqvL_strs]
theorem oNe_of {x y : D} {b : Bool} {st : St} (h : oEq x y st = some (.bl b)) : oNe x y st = some (.bl (!b)) := by
  unfold oEq at h; unfold oNe
  cases e : eqD (asD st x) (asD st y) with
  | none => rw [e] at h; cases h
  | some c => rw [e] at h; cases h; rfl

/-! ### equal to itself -/
theorem eqv_refl : ∀ (k : Nat) (d : D), d.pu k = true → d.eqv d = true
  | k, .non, _ => rfl
  | k, .bl b, _ => by show (b == b) = true; simp
  | k, .int i, _ => by show (i == i) = true; simp
  | k, .str s, _ => by show (s == s) = true; simp
  | 0, .tup l, h => by cases h
  | 0, .lst l, h => by cases h
  | k + 1, .tup l, h => by
    have h : l.all (D.pu k) = true := h
    show D.eqvL l l = true
    have : ∀ l : List D, l.all (D.pu k) = true → D.eqvL l l = true := by
      intro l
      induction l with
      | nil => intro _; rfl
      | cons d l ih =>
        intro h
        rw [List.all_cons, Bool.and_eq_true] at h
        show (d.eqv d && D.eqvL l l) = true
        rw [eqv_refl k d h.1, ih h.2]; rfl
    exact this l h
  | k + 1, .lst l, h => by
    have h : l.all (D.pu k) = true := h
    show D.eqvL l l = true
    have : ∀ l : List D, l.all (D.pu k) = true → D.eqvL l l = true := by
      intro l
      induction l with
      | nil => intro _; rfl
      | cons d l ih =>
        intro h
        rw [List.all_cons, Bool.and_eq_true] at h
        show (d.eqv d && D.eqvL l l) = true
        rw [eqv_refl k d h.1, ih h.2]; rfl
    exact this l h
  | k, .ref n, h => by cases k <;> cases h
  | k, .exc n, h => by cases k <;> cases h
theorem asD_pu {d : D} {st : St} (h : d.pu 20 = true) : asD st d = d := by
  cases d with
  | ref n => cases h
  | _ => rfl
theorem oEq_refl {d : D} {st : St} (h : d.pu 20 = true) : oEq d d st = some (.bl true) := by
  show (eqD (asD st d) (asD st d)).map D.bl = _
  rw [asD_pu h, oEq_pu (st := st) h h, eqv_refl 20 d h]; rfl

/-! ### instances -/
def fld2 (nf : Nat) (ok : Nat → Bool) (f : Nat) (o : Option Ob) (st : St) : RE := match o with
  | some (.ins c fs) => if ok c && fok nf fs then ofO (fget f fs) st else .stuck
  | _ => .stuck
def fld1 (nf : Nat) (ok : Nat → Bool) (f : Nat) (x : D) (st : St) : RE := match x with
  | .ref n => fld2 nf ok f st[n]? st
  | _ => .stuck
@[simp] theorem ap_fld (nf : Nat) (ok : Nat → Bool) (f : Nat) (g : EM) (env : Env) (st : St) : xFld nf ok f g env st = (g env st).bind (fld1 nf ok f) := by
  show (g env st).bind _ = _
  congr 1
@[simp] theorem ap_fld1 (nf : Nat) (ok : Nat → Bool) (f : Nat) (n : Nat) (st : St) : fld1 nf ok f (.ref n) st = fld2 nf ok f st[n]? st := id rfl
@[simp] theorem ap_fld2 (nf : Nat) (ok : Nat → Bool) (f c : Nat) (fs : List (Nat × D)) (st : St) : fld2 nf ok f (some (.ins c fs)) st = if (ok c && fok nf fs) = true then ofO (fget f fs) st else .stuck := id rfl
def fls2 (nf : Nat) (ok : Nat → Bool) (f : Nat) (y : D) (o : Option Ob) (n : Nat) (env : Env) (st : St) : RS := match o with
  | some (.ins c fs) => if ok c && fok nf fs && decide (fs.length < 900) then .nx env (st.set n (.ins c (fput f y fs))) else .stuck
  | _ => .stuck
def fls1 (nf : Nat) (ok : Nat → Bool) (f : Nat) (y : D) (env : Env) (x : D) (st : St) : RS := match x with
  | .ref n => fls2 nf ok f y st[n]? n env st
  | _ => .stuck
def fls0 (nf : Nat) (ok : Nat → Bool) (f : Nat) (g : EM) (env : Env) (y : D) (st : St) : RS := (g env st).bindS env (fls1 nf ok f y env)
@[simp] theorem ap_fls (nf : Nat) (ok : Nat → Bool) (f : Nat) (g e : EM) (env : Env) (st : St) : sFld nf ok f g e env st = (e env st).bindS env (fls0 nf ok f g env) := by
  show (e env st).bindS env _ = _
  congr 1
@[simp] theorem ap_fls0 (nf : Nat) (ok : Nat → Bool) (f : Nat) (g : EM) (env : Env) (y : D) (st : St) : fls0 nf ok f g env y st = (g env st).bindS env (fls1 nf ok f y env) := id rfl
@[simp] theorem ap_fls1 (nf : Nat) (ok : Nat → Bool) (f : Nat) (y : D) (env : Env) (n : Nat) (st : St) : fls1 nf ok f y env (.ref n) st = fls2 nf ok f y st[n]? n env st := id rfl
@[simp] theorem ap_fls2 (nf : Nat) (ok : Nat → Bool) (f : Nat) (y : D) (c : Nat) (fs : List (Nat × D)) (n : Nat) (env : Env) (st : St) :
    fls2 nf ok f y (some (.ins c fs)) n env st = if (ok c && fok nf fs && decide (fs.length < 900)) = true then .nx env (st.set n (.ins c (fput f y fs))) else .stuck := id rfl
def mak2 (n : Nat) (d : D) (st : St) : RE := match d with
  | .non => .ok (.ref n) st
  | _ => .stuck
def mak1 (c : Calls) (cl fi : Nat) (ds : List D) (st : St) : RE := (c fi (.ref st.length :: ds) (st ++ [.ins cl []])).bind (mak2 st.length)
@[simp] theorem ap_make (c : Calls) (cl fi : Nat) (a : AM) (env : Env) (st : St) : xMake c cl fi a env st = (a env st).bind (mak1 c cl fi) := by
  show (a env st).bind _ = _
  congr 1
@[simp] theorem ap_mak1 (c : Calls) (cl fi : Nat) (ds : List D) (st : St) : mak1 c cl fi ds st = (c fi (.ref st.length :: ds) (st ++ [.ins cl []])).bind (mak2 st.length) := id rfl
@[simp] theorem ap_mak2 (n : Nat) (st : St) : mak2 n .non st = .ok (.ref n) st := id rfl
def mth4 (c : Calls) (fi n : Nat) (ds : List D) (st : St) : RE := c fi (.ref n :: ds) st
def mth3 (c : Calls) (nf : Nat) (a : AM) (env : Env) (n : Nat) (fs : List (Nat × D)) (o : Option Nat) (st : St) : RE := match o with
  | some fi => if fok nf fs then (a env st).bind (mth4 c fi n) else .stuck
  | none => .stuck
def mth2 (c : Calls) (mt : Nat → Option Nat) (nf : Nat) (a : AM) (env : Env) (n : Nat) (o : Option Ob) (st : St) : RE := match o with
  | some (.ins cl fs) => mth3 c nf a env n fs (mt cl) st
  | _ => .stuck
def mth1 (c : Calls) (mt : Nat → Option Nat) (nf : Nat) (a : AM) (env : Env) (x : D) (st : St) : RE := match x with
  | .ref n => mth2 c mt nf a env n st[n]? st
  | _ => .stuck
@[simp] theorem ap_meth (c : Calls) (mt : Nat → Option Nat) (nf : Nat) (g : EM) (a : AM) (env : Env) (st : St) : xMeth c mt nf g a env st = (g env st).bind (mth1 c mt nf a env) := by
  show (g env st).bind _ = _
  congr 1
@[simp] theorem ap_mth1 (c : Calls) (mt : Nat → Option Nat) (nf : Nat) (a : AM) (env : Env) (n : Nat) (st : St) : mth1 c mt nf a env (.ref n) st = mth2 c mt nf a env n st[n]? st := id rfl
@[simp] theorem ap_mth2 (c : Calls) (mt : Nat → Option Nat) (nf : Nat) (a : AM) (env : Env) (n cl : Nat) (fs : List (Nat × D)) (st : St) : mth2 c mt nf a env n (some (.ins cl fs)) st = mth3 c nf a env n fs (mt cl) st := id rfl
@[simp] theorem ap_mth3 (c : Calls) (nf : Nat) (a : AM) (env : Env) (n fi : Nat) (fs : List (Nat × D)) (st : St) : mth3 c nf a env n fs (some fi) st = if fok nf fs = true then (a env st).bind (mth4 c fi n) else .stuck := id rfl
@[simp] theorem ap_mth4 (c : Calls) (fi n : Nat) (ds : List D) (st : St) : mth4 c fi n ds st = c fi (.ref n :: ds) st := id rfl
def rem3 (o : Option Ob) (n : Nat) (k : Int) (st : St) : RE := match o with
  | some (.ml l) => match intsOf l with
    | some is => if is.contains k then .ok .non (st.set n (.ml ((is.erase k).map D.int))) else .stuck
    | none => .stuck
  | _ => .stuck
theorem intsOf_map : ∀ is : List Int, intsOf (is.map D.int) = some is
  | [] => rfl
  | i :: is => by show (intsOf (is.map D.int)).map (fun is => i :: is) = _; rw [intsOf_map is]; rfl
theorem rem3_ok {is : List Int} {n : Nat} {k : Int} {st : St} (h : is.contains k = true) : rem3 (some (.ml (is.map D.int))) n k st = .ok .non (st.set n (.ml ((is.erase k).map D.int))) := by
  unfold rem3
  simp only [intsOf_map, if_pos h]
def rem2 (n : Nat) (y : D) (st : St) : RE := match y with
  | .int k => rem3 st[n]? n k st
  | _ => .stuck
def rem1 (g : EM) (env : Env) (x : D) (st : St) : RE := if isLst x st then (match x with
  | .ref n => (g env st).bind (rem2 n)
  | _ => (g env st).bind fun _ _ => .stuck) else .stuck
@[simp] theorem ap_rem (f g : EM) (env : Env) (st : St) : xRem f g env st = (f env st).bind (rem1 g env) := by
  show (f env st).bind _ = _
  congr 1; funext x st; unfold rem1
  split
  · cases x with
    | ref n =>
      simp only
      congr 1; funext y st
      cases y <;> rfl
    | _ => rfl
  · rfl
theorem rem1_ok {g : EM} {env : Env} {n : Nat} {st : St} {l : List D} (h : st[n]? = some (.ml l)) : rem1 g env (.ref n) st = (g env st).bind (rem2 n) := by
  unfold rem1 isLst
  rw [asL_ref, h]; rfl
@[simp] theorem ap_rem2 (n : Nat) (k : Int) (st : St) : rem2 n (.int k) st = rem3 st[n]? n k st := id rfl

/-! ### what holds behind -/
/-- it goes on, and Q -/
def NxQ (r : RS) (Q : Env → St → Prop) : Prop := ∃ e s, r = .nx e s ∧ Q e s
/-- it comes to a value, and Q -/
def OkQ (r : RR α) (Q : α → St → Prop) : Prop := ∃ a s, r = .ok a s ∧ Q a s
@[simp] theorem NxQ_nx (e : Env) (s : St) (Q : Env → St → Prop) : NxQ (.nx e s) Q = Q e s := propext ⟨fun ⟨_, _, h, q⟩ => by cases h; exact q, fun q => ⟨_, _, rfl, q⟩⟩
@[simp] theorem OkQ_ok (a : α) (s : St) (Q : α → St → Prop) : OkQ (.ok a s) Q = Q a s := propext ⟨fun ⟨_, _, h, q⟩ => by cases h; exact q, fun q => ⟨_, _, rfl, q⟩⟩
@[simp] theorem NxQ_ite {p : Prop} [Decidable p] (a b : RS) (Q : Env → St → Prop) : NxQ (if p then a else b) Q = if p then NxQ a Q else NxQ b Q := by split <;> rfl
@[simp] theorem OkQ_ite {p : Prop} [Decidable p] (a b : RR α) (Q : α → St → Prop) : OkQ (if p then a else b) Q = if p then OkQ a Q else OkQ b Q := by split <;> rfl
theorem NxQ.mono {r : RS} {Q Q' : Env → St → Prop} (h : NxQ r Q) (i : ∀ e s, Q e s → Q' e s) : NxQ r Q' := h.imp fun _ h => h.imp fun _ h => ⟨h.1, i _ _ h.2⟩
theorem OkQ.mono {r : RR α} {Q Q' : α → St → Prop} (h : OkQ r Q) (i : ∀ e s, Q e s → Q' e s) : OkQ r Q' := h.imp fun _ h => h.imp fun _ h => ⟨h.1, i _ _ h.2⟩
theorem NxQ.seq {r : RS} {Q Q' : Env → St → Prop} {k : Env → St → RS} (h : NxQ r Q) (i : ∀ e s, Q e s → NxQ (k e s) Q') : NxQ (r.seq k) Q' := by
  obtain ⟨e, s, rfl, q⟩ := h
  exact i e s q
/-- .. and a def's end -/
theorem NxQ.fin {r : RS} {Q : Env → St → Prop} {Q' : D → St → Prop} {k : Env → St → RS} (h : NxQ r Q) (i : ∀ e s, Q e s → OkQ (TH.Q.fin (k e s)) Q') : OkQ (TH.Q.fin (r.seq k)) Q' := by
  obtain ⟨e, s, rfl, q⟩ := h
  exact i e s q
theorem OkQ.bind {r : RR α} {Q : α → St → Prop} {Q' : β → St → Prop} {k : α → St → RR β} (h : OkQ r Q) (i : ∀ e s, Q e s → OkQ (k e s) Q') : OkQ (r.bind k) Q' := by
  obtain ⟨e, s, rfl, q⟩ := h
  exact i e s q
theorem OkQ.bindS {r : RR α} {env : Env} {Q : α → St → Prop} {Q' : Env → St → Prop} {k : α → St → RS} (h : OkQ r Q) (i : ∀ e s, Q e s → NxQ (k e s) Q') : NxQ (r.bindS env k) Q' := by
  obtain ⟨e, s, rfl, q⟩ := h
  exact i e s q
end TH.Q
end
section
set_option linter.all false
set_option autoImplicit false
/-! TH10: the laws' own small functions (drawing, levels), each proved once. Plain Lean. -/
namespace TH.Q
open TH
abbrev FF := List D → St → RE
def scr (ns : List Int) : D := .lst (ns.map D.int)
/-- the town: its first object counts the drawings -/
def S (t : Nat) (rest : St) : St := .ml (List.replicate t (.int 0)) :: rest
theorem S_get (t : Nat) (rest : St) : (S t rest)[0]? = some (.ml (List.replicate t (.int 0))) := rfl
theorem S_set (t : Nat) (rest : St) : (S t rest).set 0 (.ml (List.replicate t (.int 0) ++ [.int 0])) = S (t + 1) rest := by
  show Ob.ml _ :: rest = _
  unfold S; rw [List.replicate_succ']

@[simp] theorem S_get0 (t : Nat) (rest : St) : (S t rest)[0]? = some (.ml (List.replicate t (.int 0))) := id rfl
@[simp high] theorem S_getS (t n : Nat) (rest : St) : (S t rest)[n + 1]? = rest[n]? := id rfl
@[simp high] theorem S_get1 (t : Nat) (rest : St) : (S t rest)[1]? = rest[0]? := id rfl
@[simp high] theorem S_get2 (t : Nat) (rest : St) : (S t rest)[2]? = rest[1]? := id rfl
@[simp high] theorem S_get3 (t : Nat) (rest : St) : (S t rest)[3]? = rest[2]? := id rfl
@[simp high] theorem S_get4 (t : Nat) (rest : St) : (S t rest)[4]? = rest[3]? := id rfl
@[simp] theorem S_len (t : Nat) (rest : St) : (S t rest).length = rest.length + 1 := id rfl
@[simp] theorem S_app (t : Nat) (rest x : St) : S t rest ++ x = S t (rest ++ x) := id rfl
@[simp] theorem S_setS (t n : Nat) (rest : St) (o : Ob) : (S t rest).set (n + 1) o = S t (rest.set n o) := id rfl
theorem S_new : ([.ml []] : St) = S 0 [] := rfl
/-! ### drawing -/
def gCell : SM := sSeq (sIf (xVar 0) (sRet (xBin oIx (xVar 0) (xBin oMod (xVar 1) (xB bLen (aCons (xVar 0) (aNil)))))) (sSkip))
    (sRet (xC (.int 0)))
def gMix (c : Calls) (i : Nat) : SM := sSeq (sSet 2 (xBin oMod (xBin oAdd (xCall c i (aCons (xVar 0) (aCons (xVar 1) (aNil)))) (xBin oMul (xC (.int 104729)) (xBin oAdd (xVar 1) (xC (.int 1))))) (xC (.int 4294967291))))
    (sSeq (sSet 2 (xBin oMod (xBin oPow (xVar 2) (xC (.int 5))) (xC (.int 4294967279))))
    (sRet (xBin oMod (xBin oAdd (xBin oMul (xBin oDiv (xVar 2) (xC (.int 64))) (xC (.int 69621))) (xVar 2)) (xC (.int 4294967231)))))
def gDraw (c : Calls) (i : Nat) : SM := sSeq (sExpr (xApp (xVar 1) (xC (.int 0))))
    (sRet (xBin oMod (xBin oDiv (xCall c i (aCons (xVar 0) (aCons (xB bLen (aCons (xVar 1) (aNil))) (aNil)))) (xC (.int 8))) (xVar 2)))
def gPick (c : Calls) (i : Nat) : SM := sRet (xBin oIx (xVar 2) (xCall c i (aCons (xVar 0) (aCons (xVar 1) (aCons (xB bLen (aCons (xVar 2) (aNil))) (aNil))))))

def CellF (F : FF) (ns : List Int) : Prop := ∀ (k : Nat) (st : St), ∃ i : Int, F [scr ns, .int k] st = .ok (.int i) st
def MixF (F : FF) (ns : List Int) : Prop := ∀ (k : Nat) (st : St), ∃ m : Nat, F [scr ns, .int k] st = .ok (.int m) st
def DrawF (F : FF) (ns : List Int) : Prop := ∀ (t : Nat) (rest : St) (many : Nat), t < 10000000 → 0 < many → ∃ r : Nat, r < many ∧ F [scr ns, .ref 0, .int many] (S t rest) = .ok (.int r) (S (t + 1) rest)
structure PickF (F : FF) (ns : List Int) : Prop where
  lst : ∀ (t : Nat) (rest : St) (l : List D), t < 10000000 → l ≠ [] → ∃ d ∈ l, F [scr ns, .ref 0, .lst l] (S t rest) = .ok d (S (t + 1) rest)
  str : ∀ (t : Nat) (rest : St) (s : List Nat), t < 10000000 → s ≠ [] → s.length ≤ 16777216 → ∃ d ∈ s, F [scr ns, .ref 0, .str s] (S t rest) = .ok (.str [d]) (S (t + 1) rest)
  ref : ∀ (t : Nat) (rest : St) (n : Nat) (l : List D), t < 10000000 → l ≠ [] → asO rest[n]? = some l → ∃ d ∈ l, F [scr ns, .ref 0, .ref (n + 1)] (S t rest) = .ok d (S (t + 1) rest)

theorem g_cell (ns : List Int) : CellF (body 2 2 gCell) ns := by
  intro k st
  rw [ap_body (by rfl)]
  unfold gCell scr
  cases ns with
  | nil => exact ⟨0, by simp⟩
  | cons n ns =>
    have h : k % (ns.length + 1) < (n :: ns).length := Nat.mod_lt _ (by simp)
    have e : (k : Int) % ((ns.length : Int) + 1) = ((k % (ns.length + 1) : Nat) : Int) := by simp
    refine ⟨(n :: ns)[k % (ns.length + 1)], ?_⟩
    have hx : oIx (.lst (D.int n :: ns.map D.int)) (.int ((k : Int) % ((ns.length : Int) + 1))) st = some (.int (n :: ns)[k % (ns.length + 1)]) := by
      rw [e, oIx_lst, ← List.map_cons, List.getElem?_map, List.getElem?_eq_getElem h]; rfl
    have hm : oMod (.int (k : Int)) (.int ((ns.length : Int) + 1)) st = some (.int ((k : Int) % ((ns.length : Int) + 1))) := oMod_int (by omega)
    simp [hm, hx]

theorem g_mix {c : Calls} {i : Nat} {ns : List Int} (h : CellF (c i) ns) : MixF (body 2 3 (gMix c i)) ns := by
  intro k st
  rw [ap_body (by rfl)]
  unfold gMix
  obtain ⟨x, e⟩ := h k st
  have h1 : 0 ≤ (x + 104729 * ((k : Int) + 1)) % 4294967291 := Int.emod_nonneg _ (by omega)
  have h2 : (x + 104729 * ((k : Int) + 1)) % 4294967291 < 4294967291 := Int.emod_lt_of_pos _ (by omega)
  generalize hy : (x + 104729 * ((k : Int) + 1)) % 4294967291 = y at h1 h2
  have h3 : 0 ≤ y ^ 5 % 4294967279 := Int.emod_nonneg _ (by omega)
  generalize hz : y ^ 5 % 4294967279 = z at h3
  have h4 : 0 ≤ (z / 64 * 69621 + z) % 4294967231 := Int.emod_nonneg _ (by omega)
  refine ⟨((z / 64 * 69621 + z) % 4294967231).toNat, ?_⟩
  have p : ∀ st, oPow (.int y) (.int 5) st = some (.int (y ^ 5)) := fun st => oPow_int ⟨by omega, by omega, by omega⟩
  have m1 : ∀ st, oMul (.int 104729) (.int ((k : Int) + 1)) st = some (.int (104729 * ((k : Int) + 1))) := fun st => oMul_l (by omega)
  have m2 : ∀ st, oMul (.int (z / 64)) (.int 69621) st = some (.int (z / 64 * 69621)) := fun st => oMul_r (by omega)
  simp (disch := omega) [e, m1, oMod_int, hy, p, hz, oDiv_int, m2, Int.toNat_of_nonneg h4]

theorem g_draw {c : Calls} {i : Nat} {ns : List Int} (h : MixF (c i) ns) : DrawF (body 3 3 (gDraw c i)) ns := by
  intro t rest many ht hm
  rw [ap_body (by rfl)]
  unfold gDraw
  obtain ⟨m, e⟩ := h (t + 1) (S (t + 1) rest)
  refine ⟨m / 8 % many, Nat.mod_lt _ hm, ?_⟩
  have e' : c i [scr ns, .int ((t : Int) + 1)] (S (t + 1) rest) = .ok (.int m) (S (t + 1) rest) := by simpa using e
  have a : ∀ g env, app1 g env (.ref 0) (S t rest) = (g env (S t rest)).bind (app2 0) := fun g env => app1_ok (S_get t rest)
  have a3 : app3 (some (.ml (List.replicate t (.int 0)))) 0 (.int 0) (S t rest) = .ok .non (S (t + 1) rest) := by
    rw [app3_ok (by simp; omega), S_set]
  simp (disch := omega) [a, S_get, a3, e', oDiv_int, oMod_int]

theorem g_pick {c : Calls} {i : Nat} {ns : List Int} (h : DrawF (c i) ns) : PickF (body 3 3 (gPick c i)) ns := by
  constructor
  · intro t rest l ht hl
    rw [ap_body (by rfl)]
    unfold gPick
    obtain ⟨r, hr, e⟩ := h t rest l.length ht (List.length_pos_iff.mpr hl)
    refine ⟨l[r], List.getElem_mem _, ?_⟩
    simp [e, oIx_lst, List.getElem?_eq_getElem hr]
  · intro t rest s ht hl hs
    rw [ap_body (by rfl)]
    unfold gPick
    obtain ⟨r, hr, e⟩ := h t rest s.length ht (List.length_pos_iff.mpr hl)
    refine ⟨s[r], List.getElem_mem _, ?_⟩
    simp [e, oIx_str hs, bLen_str hs, List.getElem?_eq_getElem hr]
  · intro t rest n l ht hl hg
    rw [ap_body (by rfl)]
    unfold gPick
    obtain ⟨r, hr, e⟩ := h t rest l.length ht (List.length_pos_iff.mpr hl)
    refine ⟨l[r], List.getElem_mem _, ?_⟩
    have hx : oIx (.ref (n + 1)) (.int (r : Int)) (S (t + 1) rest) = some l[r] := by
      rw [oIx_ref (l := l) (by rw [S_getS]; exact hg), oIx_lst, List.getElem?_eq_getElem hr]
    simp [e, hg, hx]
end TH.Q
namespace TH.Q
open TH
/-! ### drawing, told by what is left alone -/
def TW (t : Nat) (st : St) : Prop := st[0]? = some (.ml (List.replicate t (.int 0)))
/-- the same but for the town -/
structure Fr0 (st st' : St) : Prop where
  at_ : ∀ j : Nat, st'[j + 1]? = st[j + 1]?
  len : st'.length = st.length
theorem Fr0.refl (st : St) : Fr0 st st := ⟨fun _ => rfl, rfl⟩
theorem Fr0.trans {a b c : St} (h : Fr0 a b) (h' : Fr0 b c) : Fr0 a c := ⟨fun j => (h'.at_ j).trans (h.at_ j), h'.len.trans h.len⟩
theorem TW.eq {t : Nat} {st : St} (h : TW t st) : ∃ rest, st = S t rest := by
  cases st with
  | nil => cases h
  | cons o rest => cases h; exact ⟨rest, rfl⟩
theorem S_TW (t : Nat) (rest : St) : TW t (S t rest) := rfl
theorem S_Fr (t t' : Nat) (rest : St) : Fr0 (S t rest) (S t' rest) := ⟨fun _ => rfl, rfl⟩
theorem DrawF.fr {F : FF} {ns : List Int} (h : DrawF F ns) {t : Nat} {st : St} (i : TW t st) (many : Nat) (ht : t < 10000000) (hm : 0 < many) : ∃ (r : Nat) (st' : St), r < many ∧ F [scr ns, .ref 0, .int many] st = .ok (.int r) st' ∧ TW (t + 1) st' ∧ Fr0 st st' := by
  obtain ⟨rest, rfl⟩ := i.eq
  obtain ⟨r, hr, e⟩ := h t rest many ht hm
  exact ⟨r, _, hr, e, S_TW _ _, S_Fr _ _ _⟩
theorem PickF.fr {F : FF} {ns : List Int} (h : PickF F ns) {t : Nat} {st : St} (i : TW t st) (l : List D) (ht : t < 10000000) (hl : l ≠ []) : ∃ d st', d ∈ l ∧ F [scr ns, .ref 0, .lst l] st = .ok d st' ∧ TW (t + 1) st' ∧ Fr0 st st' := by
  obtain ⟨rest, rfl⟩ := i.eq
  obtain ⟨d, hd, e⟩ := h.lst t rest l ht hl
  exact ⟨d, _, hd, e, S_TW _ _, S_Fr _ _ _⟩

/-! ### signs, levels -/
def alpha : List Nat := [32, 33, 35, 36, 38, 39, 40, 41, 42, 43, 44, 45, 46, 47, 48, 49, 50, 51, 52, 53, 54, 55, 56, 57, 58, 59, 60, 61, 62, 63, 64, 65, 66, 67, 88, 89, 90, 91, 93, 94, 95, 97, 98, 99, 100, 101, 102, 103, 104, 105, 106, 107, 108, 109, 110, 111, 112, 113, 114, 115, 116, 117, 118, 119, 120, 121, 122, 123, 124, 125, 126]
def gSigns (c : Calls) (i : Nat) : SM := sSeq (sSet 4 (xC (.str alpha)))
    (sSeq (sSet 5 (xC (.str [])))
    (sSeq (sFor (iRng1 (xVar 2)) (.name 6) (sSeq (sSet 7 (xCall c i (aCons (xVar 0) (aCons (xVar 1) (aCons (xVar 4) (aNil))))))
    (sSet 5 (xBin oAdd (xVar 5) (xIf (xAnd (xBin oIn (xVar 7) (xC (.str [43, 35, 47]))) (xNot (xVar 3))) (xC (.str [120])) (xVar 7))))))
    (sRet (xVar 5))))
def gLevel (c : Calls) (id ip is : Nat) : SM := sSeq (sSet 2 (xCall c id (aCons (xVar 0) (aCons (xVar 1) (aCons (xC (.int 8)) (aNil))))))
    (sSeq (sIf (xBin oLt (xVar 2) (xC (.int 5))) (sRet (xCall c ip (aCons (xVar 0) (aCons (xVar 1) (aCons (xLst (lLst (aCons (xC (.str [97])) (aCons (xC (.str [98])) (aCons (xC (.str [])) (aCons (xC (.str [36, 115])) (aCons (xC (.str [97, 98])) (aNil)))))))) (aNil)))))) (sSkip))
    (sRet (xCall c is (aCons (xVar 0) (aCons (xVar 1) (aCons (xCall c ip (aCons (xVar 0) (aCons (xVar 1) (aCons (xLst (lLst (aCons (xC (.int 1)) (aCons (xC (.int 2)) (aCons (xC (.int 5)) (aCons (xC (.int 12)) (aNil))))))) (aNil))))) (aCons (xC (.bl false)) (aNil))))))))
/-- a sign of a level -/
def okc (c : Nat) : Bool := decide (32 ≤ c) && decide (c < 127) && c != 37 && c != 35 && c != 43
/-- a printed sign, no per cent -/
def okp (c : Nat) : Bool := decide (32 ≤ c) && decide (c < 127) && c != 37
def isLv (s : List Nat) : Bool := decide (s.length ≤ 12) && s.all okc
structure SignsF (F : FF) (ns : List Int) : Prop where
  any : ∀ (t : Nat) (rest : St) (n : Nat) (also : Bool), t + n < 10000000 → n ≤ 1000 → ∃ s : List Nat, s.length = n ∧ (∀ c ∈ s, okp c = true ∧ (also = false → c ≠ 43 ∧ c ≠ 35 ∧ c ≠ 47)) ∧
    F [scr ns, .ref 0, .int n, .bl also] (S t rest) = .ok (.str s) (S (t + n) rest)
/-- a level that is drawn: good, without a slash -/
def LevelF (F : FF) (ns : List Int) : Prop := ∀ (t : Nat) (rest : St), t + 20 < 10000000 → ∃ (s : List Nat) (t' : Nat), t' ≤ t + 20 ∧ isLv s = true ∧ 47 ∉ s ∧ F [scr ns, .ref 0] (S t rest) = .ok (.str s) (S t' rest)
def IsLevelF (F : FF) : Prop := ∀ (s : List Nat) (st : St), s.length ≤ 16777216 → F [.str s] st = .ok (.bl (isLv s)) st

theorem alpha_okp : ∀ c ∈ alpha, okp c = true := by decide
theorem g_signs {c : Calls} {i : Nat} {ns : List Int} (h : PickF (c i) ns) : SignsF (body 4 8 (gSigns c i)) ns := by
  constructor
  intro t rest n also ht hn
  rw [ap_body (by rfl)]
  unfold gSigns
  let I : Nat → Env → St → Prop := fun k env st => ∃ (s : List Nat) (e6 e7 : Option D), k + s.length = n ∧ (∀ c ∈ s, okp c = true ∧ (also = false → c ≠ 43 ∧ c ≠ 35 ∧ c ≠ 47)) ∧
    env = [some (scr ns), some (.ref 0), some (.int n), some (.bl also), some (.str alpha), some (.str s), e6, e7] ∧ st = S (t + s.length) rest
  obtain ⟨env', st', e, s, e6, e7, h1, h2, h3, h4⟩ := fData_inv (t := .name 6) (b := sSeq (sSet 7 (xCall c i (aCons (xVar 0) (aCons (xVar 1) (aCons (xVar 4) (aNil))))))
    (sSet 5 (xBin oAdd (xVar 5) (xIf (xAnd (xBin oIn (xVar 7) (xC (.str [43, 35, 47]))) (xNot (xVar 3))) (xC (.str [120])) (xVar 7))))) (fun k : Nat => D.int k) I (List.range n)
    [some (scr ns), some (.ref 0), some (.int n), some (.bl also), some (.str alpha), some (.str []), none, none] (S t rest) ⟨[], none, none, by simp, by simp, rfl, rfl⟩ (by
      rintro a - k env st ⟨s, e6, e7, h1, h2, rfl, rfl⟩
      obtain ⟨d, hd, ed⟩ := h.str (t + s.length) rest alpha (by omega) (by simp [alpha]) (by simp [alpha])
      have hl : s.length + 1 ≤ 16777216 := by omega
      refine ⟨_, [some (scr ns), some (.ref 0), some (.int n), some (.bl also), some (.str alpha), some (.str (s ++ [if ([43, 35, 47].contains d && !also) then 120 else d])), some (.int a), some (.str [d])], S (t + s.length + 1) rest, rfl, ?_,
        s ++ [if ([43, 35, 47].contains d && !also) then 120 else d], some (.int a), some (.str [d]), by simp; omega, ?_, rfl, by simp; rfl⟩
      · simp only [ap_seq, ap_set, ap_call, ap_cons, ap_var, List.set_cons_succ, List.set_cons_zero, List.getElem?_cons_succ, get_zero, get_one, get_two, vr_some, bind_ok, ap_cns1, ap_nil, ap_cns2, ed, bindS_ok, ap_set1, seq_nx, ap_bin, ap_bin1, ap_bin2, ap_if, ap_and, ap_C, oIn_str, ofO_some, ap_and1, truthy_bl, ap_and2, ap_not, ap_not1, ap_not2, and3_b, ap_if1, ap_if2, if3_b, ite_str]
        rw [oAdd_str (by split <;> simp <;> omega)]
        simp only [ofO_some, bindS_ok, ap_set1, List.set_cons_succ, List.set_cons_zero]
        split <;> rfl
      · intro x hx
        rcases List.mem_append.mp hx with hx | hx
        · exact h2 x hx
        · rw [List.mem_singleton] at hx
          subst hx
          split
          · exact ⟨by decide, fun _ => by decide⟩
          · rename_i hc
            refine ⟨alpha_okp d hd, fun hal => ?_⟩
            subst hal
            simp at hc
            omega
      )
  subst h3 h4
  have hs : s.length = n := by omega
  refine ⟨s, hs, h2, ?_⟩
  have hr : rng1 (.int (n : Int)) (S t rest) = .ok (.data ((List.range n).map fun (k : Nat) => D.int (k : Int))) (S t rest) := rng1_ok (by omega)
  simp [hr, e, hs]
end TH.Q
namespace TH.Q
open TH
theorem isLv_of {s : List Nat} (h1 : s.length ≤ 12) (h2 : ∀ c ∈ s, okp c = true ∧ c ≠ 43 ∧ c ≠ 35 ∧ c ≠ 47) : isLv s = true ∧ 47 ∉ s := by
  refine ⟨?_, fun h => (h2 47 h).2.2.2 rfl⟩
  unfold isLv
  simp only [Bool.and_eq_true, decide_eq_true_eq, List.all_eq_true]
  refine ⟨h1, fun c hc => ?_⟩
  obtain ⟨a, b, c', d⟩ := h2 c hc
  unfold okp at a; unfold okc
  simp only [Bool.and_eq_true, decide_eq_true_eq, bne_iff_ne] at a ⊢
  exact ⟨⟨⟨a.1, a.2⟩, c'⟩, b⟩
theorem g_level {c : Calls} {id ip is : Nat} {ns : List Int} (hd : DrawF (c id) ns) (hp : PickF (c ip) ns) (hs : SignsF (c is) ns) : LevelF (body 2 3 (gLevel c id ip is)) ns := by
  intro t rest ht
  rw [ap_body (by rfl)]
  unfold gLevel
  obtain ⟨r, hr, er⟩ := hd t rest 8 (by omega) (by omega)
  have er' : c id [scr ns, .ref 0, .int 8] (S t rest) = .ok (.int r) (S (t + 1) rest) := er
  by_cases h5 : r < 5
  · obtain ⟨d, hd, ed⟩ := hp.lst (t + 1) rest [.str [97], .str [98], .str [], .str [36, 115], .str [97, 98]] (by omega) (by simp)
    have h5' : (r : Int) < 5 := by omega
    have : ∃ s, d = .str s ∧ isLv s = true ∧ 47 ∉ s := by
      simp only [List.mem_cons, List.not_mem_nil, or_false] at hd
      rcases hd with rfl | rfl | rfl | rfl | rfl <;> exact ⟨_, rfl, by decide, by decide⟩
    obtain ⟨s, rfl, h1, h2⟩ := this
    exact ⟨s, t + 1 + 1, by omega, h1, h2, by simp [er', ed, h5']⟩
  · obtain ⟨d, hd, ed⟩ := hp.lst (t + 1) rest [.int 1, .int 2, .int 5, .int 12] (by omega) (by simp)
    have h5' : ¬ (r : Int) < 5 := by omega
    have : ∃ n : Nat, d = .int n ∧ n ≤ 12 := by
      simp only [List.mem_cons, List.not_mem_nil, or_false] at hd
      rcases hd with rfl | rfl | rfl | rfl
      · exact ⟨1, rfl, by decide⟩
      · exact ⟨2, rfl, by decide⟩
      · exact ⟨5, rfl, by decide⟩
      · exact ⟨12, rfl, by decide⟩
    obtain ⟨n, rfl, hn⟩ := this
    obtain ⟨s, h1, h2, es⟩ := hs.any (t + 1 + 1) rest n false (by omega) (by omega)
    obtain ⟨g1, g2⟩ := isLv_of (s := s) (by omega) fun c hc => ⟨(h2 c hc).1, (h2 c hc).2 rfl⟩
    exact ⟨s, t + 1 + 1 + n, by omega, g1, g2, by simp [er', ed, h5', es]⟩

def gIsLevel : SM := sSeq (sSet 1 (xLst (lComp (iVal (xVar 0)) (.name 2) none (xB bOrd (aCons (xVar 2) (aNil))) [2])))
    (sRet (xAnd (xBin oLt (xB bLen (aCons (xVar 0) (aNil))) (xC (.int 13))) (xB bAll (aCons (xLst (lComp (iVal (xVar 1)) (.name 3) none (xAnd (xChain oLe oLt (xC (.int 32)) (xVar 3) (xC (.int 127))) (xBin oNotIn (xVar 3) (xTup (aCons (xC (.int 35)) (aCons (xC (.int 37)) (aCons (xC (.int 43)) (aNil))))))) [3])) (aNil)))))
theorem lv_in (a : Nat) (st : St) : oNotIn (.int (a : Int)) (.tup [.int 35, .int 37, .int 43]) st = some (.bl (!((35 : Int) == a || ((37 : Int) == a || (43 : Int) == a)))) := by
  rw [oNotIn_tup (by rfl) (by rfl)]; simp [D.eqv]
theorem lv_ok (a : Nat) : (decide ((32 : Int) ≤ a) && decide ((a : Int) < 127) && !((35 : Int) == a || ((37 : Int) == a || (43 : Int) == a))) = okc a := by
  unfold okc
  rw [Bool.eq_iff_iff]
  simp only [Bool.and_eq_true, decide_eq_true_eq, bne_iff_ne, Bool.not_eq_true', Bool.or_eq_false_iff, beq_eq_false_iff_ne]
  omega
theorem g_is_level : IsLevelF (body 1 4 gIsLevel) := by
  intro s st hs
  rw [ap_body (by rfl)]
  unfold gIsLevel
  simp [wk_str hs]
  rw [cData_map (g := fun c : Nat => D.int c) (h := ?h) (hl := by simpa using hs)]
  case h => exact fun a _ => ⟨_, put_name _ _ _ _, by simp⟩
  simp [bLen_str hs]
  rw [cData_map (g := fun c : Nat => D.bl (okc c)) (h := ?h) (hl := by simpa using hs)]
  case h => exact fun a _ => ⟨_, put_name _ _ _ _, by simp only [List.set_cons_succ, List.set_cons_zero, ap_and, ap_chain, ap_C, bind_ok, ap_ch1, ap_var, List.getElem?_cons_succ, get_zero, get_one, get_two, vr_some, ap_ch2, oLe_int, ap_ch3, oLt_int, ofO_some, ch4_b, ap_and1, truthy_bl, ap_and2, ap_bin, ap_bin1, ap_tup, ap_cons, ap_cns1, ap_nil, ap_cns2, tup1_3, ap_bin2, lv_in, and3_b, lv_ok]⟩
  simp
  unfold isLv
  congr 1
  rw [Bool.eq_iff_iff]; simp only [decide_eq_true_eq]; omega
end TH.Q
namespace TH.Q
open TH
/-! ### names, wishes -/
def isNm (s : List Nat) : Bool := !s.isEmpty && (decide ((splitL 47 s).length ≤ 8) && (splitL 47 s).all isLv)
/-- a wish's levels but a hash at the end -/
def wPlain (l : List (List Nat)) : List (List Nat) := if l.getLast? = some [35] then l.dropLast else l
def isWl (l : List Nat) : Bool := l == [43] || isLv l
def isWs (s : List Nat) : Bool := !s.isEmpty && (decide ((splitL 47 s).length ≤ 8) && (wPlain (splitL 47 s)).all isWl)
def IsNameF (F : FF) : Prop := ∀ (s : List Nat) (st : St), s.length ≤ 16777000 → F [.str s] st = .ok (.bl (isNm s)) st
/-- the store grows -/
def IsWishF (F : FF) : Prop := ∀ (s : List Nat) (st : St), s.length ≤ 90000 → ∃ o, F [.str s] st = .ok (.bl (isWs s)) (st ++ [o])

def gIsName (c : Calls) (i : Nat) : SM := sSeq (sSet 1 (xLst (lSplit (xVar 0) (xC (.str [47])))))
    (sRet (xAnd (xBin oNe (xVar 0) (xC (.str []))) (xAnd (xBin oLt (xB bLen (aCons (xVar 1) (aNil))) (xC (.int 9))) (xB bAll (aCons (xLst (lComp (iVal (xVar 1)) (.name 2) none (xCall c i (aCons (xVar 2) (aNil))) [2])) (aNil))))))
def gIsWish (c : Calls) (i : Nat) : SM := sSeq (sSet 1 (xMut (lSplit (xVar 0) (xC (.str [47])))))
    (sSeq (sIf (xBin oEq (xBin oIx (xVar 1) (xNeg (xC (.int 1)))) (xC (.str [35]))) (sSetL (xVar 1) (xNeg (xC (.int 1))) (xC (.str [97]))) (sSkip))
    (sRet (xAnd (xBin oNe (xVar 0) (xC (.str []))) (xAnd (xBin oLt (xB bLen (aCons (xVar 1) (aNil))) (xC (.int 9))) (xB bAll (aCons (xLst (lComp (iVal (xVar 1)) (.name 2) none (xOr (xBin oEq (xVar 2) (xC (.str [43]))) (xCall c i (aCons (xVar 2) (aNil)))) [2])) (aNil)))))))
theorem lt9 (n : Nat) : decide ((n : Int) < 9) = decide (n ≤ 8) := by rw [Bool.eq_iff_iff]; simp only [decide_eq_true_eq]; omega
theorem g_is_name {c : Calls} {i : Nat} (h : IsLevelF (c i)) : IsNameF (body 1 3 (gIsName c i)) := by
  intro s st hs
  rw [ap_body (by rfl)]
  unfold gIsName
  have hl := splitL_len 47 s
  simp [spl2_ok (s := s) (c := 47) (st := st) (by omega) (by decide)]
  rw [cData_map (g := fun p : List Nat => D.bl (isLv p)) (h := ?h) (hl := by simp; omega)]
  case h => exact fun p hp => ⟨_, put_name _ _ _ _, by simp [h p st (by have := hl.2 p hp; omega)]⟩
  simp [lt9]
  rfl
theorem getLast?_set {α : Type} (l : List α) (h : l ≠ []) (a : α) : l.set (l.length - 1) a = l.dropLast ++ [a] := by
  induction l with
  | nil => exact absurd rfl h
  | cons x l ih =>
    cases l with
    | nil => rfl
    | cons y r =>
      have := ih (by simp)
      simp only [List.length_cons, Nat.add_sub_cancel, List.set_cons_succ, List.dropLast_cons₂, List.cons_append] at this ⊢
      rw [this]
theorem isWl_a : isWl [97] = true := by decide
theorem wish_all (l : List (List Nat)) (hl : l ≠ []) : (if l.getLast? = some [35] then l.dropLast ++ [[97]] else l).all isWl = (wPlain l).all isWl := by
  unfold wPlain
  split
  · rw [List.all_append, show ([[97]] : List (List Nat)).all isWl = true from by decide, Bool.and_true]
  · rfl
theorem g_is_wish {c : Calls} {i : Nat} (h : IsLevelF (c i)) : IsWishF (body 1 3 (gIsWish c i)) := by
  intro s st hs
  have hl := splitL_len 47 s
  have hne := splitL_ne 47 s
  have hsp := spl2_ok (s := s) (c := 47) (st := st) (by omega) (by decide)
  have hws : isWs s = (!s.isEmpty && (decide ((splitL 47 s).length ≤ 8) && (wPlain (splitL 47 s)).all isWl)) := rfl
  generalize splitL 47 s = ps at hl hne hsp hws
  obtain ⟨qs, hqs0⟩ : ∃ qs, qs = if ps.getLast? = some [35] then ps.dropLast ++ [[97]] else ps := ⟨_, rfl⟩
  refine ⟨.ml (qs.map D.str), ?_⟩
  rw [ap_body (by rfl)]
  unfold gIsWish
  obtain ⟨z, hz⟩ : ∃ z, ps.getLast? = some z := by
    cases hh : ps.getLast? with
    | none => exact absurd (List.getLast?_eq_none_iff.mp hh) hne
    | some z => exact ⟨z, rfl⟩
  have hget : ∀ xs : List D, (st ++ [Ob.ml xs])[st.length]? = some (.ml xs) := fun xs => by simp
  have hix : oIx (.ref st.length) (.int (-1)) (st ++ [Ob.ml (ps.map D.str)]) = some (.str z) := by
    rw [oIx_ref (l := ps.map D.str) (by rw [hget]; rfl), oIx_lstm1, List.getLast?_map, hz]; rfl
  have hqs : qs.length = ps.length := by
    rw [hqs0]
    split
    · simp; have : ps.length ≠ 0 := fun h0 => hne (List.length_eq_zero_iff.mp h0); omega
    · rfl
  have hql : ∀ q ∈ qs, q.length ≤ s.length ∨ q = [97] := by
    intro q hq
    rw [hqs0] at hq
    split at hq
    · rcases List.mem_append.mp hq with hq | hq
      · exact .inl (hl.2 q (List.dropLast_subset _ hq))
      · exact .inr (by simpa using hq)
    · exact .inl (hl.2 q hq)
  have hlast : oEq (.str z) (.str [35]) (st ++ [Ob.ml (ps.map D.str)]) = some (.bl (z == [35])) := oEq_str _ _ _
  have key : ∀ env : Env, env = [some (.str s), some (.ref st.length), none] → fin (sRet (xAnd (xBin oNe (xVar 0) (xC (.str []))) (xAnd (xBin oLt (xB bLen (aCons (xVar 1) (aNil))) (xC (.int 9))) (xB bAll (aCons (xLst (lComp (iVal (xVar 1)) (.name 2) none (xOr (xBin oEq (xVar 2) (xC (.str [43]))) (xCall c i (aCons (xVar 2) (aNil)))) [2])) (aNil))))) env (st ++ [.ml (qs.map D.str)])) = .ok (.bl (isWs s)) (st ++ [.ml (qs.map D.str)]) := by
    rintro _ rfl
    simp [lt9]
    rw [cObj_map (f := D.str) (g := fun p : List Nat => D.bl (isWl p)) (l := qs) (hm := by simp) (h := ?h) (hl := by rw [hqs]; omega)]
    case h => exact fun p hp => ⟨_, put_name _ _ _ _, by
      simp [h p (st ++ [Ob.ml (qs.map D.str)]) (by rcases hql p hp with h | rfl; omega; simp)]
      rfl⟩
    simp
    rw [hws, ← wish_all _ hne, hqs, ← hqs0]
  simp only [ap_seq, ap_set, ap_mut, ap_split, ap_var, List.map_cons, List.map_nil, List.length_cons, List.length_nil, List.cons_append, List.nil_append, get_zero, get_one, vr_some, bind_ok, ap_spl1, ap_C, hsp, ap_mut1, bindS_ok, ap_set1, seq_nx, ap_sif, ap_bin, ap_bin1, ap_neg, ap_neg1, ap_bin2, List.reduceReplicate, List.set_cons_succ, List.set_cons_zero, Nat.reduceSub, Nat.zero_add, hix, ofO_some, hlast, ap_sif1, truthy_bl]
  by_cases h35 : z = [35]
  · subst h35
    have hqe : qs = ps.dropLast ++ [[97]] := by rw [hqs0, if_pos hz]
    have hst : stl2 (.str [97]) (.ref st.length) [some (.str s), some (.ref st.length), none] (.int (-1)) (st ++ [Ob.ml (ps.map D.str)]) = .nx [some (.str s), some (.ref st.length), none] (st ++ [Ob.ml (qs.map D.str)]) := by
      have hp : 0 < (ps.map D.str).length := by rw [List.length_map]; exact List.length_pos_iff.mpr hne
      rw [stl2_ok (hget _), ixN_m1 _ hp, stl3_some, getLast?_set _ (by simpa using hne), hqe]
      simp
    simp only [beq_self_eq_true, sif2_t, ap_stl, ap_C, bindS_ok, ap_stl0, ap_var, List.getElem?_cons_succ, get_zero, get_one, vr_some, ap_stl1, ap_neg, bind_ok, ap_neg1, hst, seq_nx]
    exact key _ rfl
  · have hqe : qs = ps := by rw [hqs0, if_neg (by rw [hz]; simpa using h35)]
    rw [hqe] at key
    rw [show (z == [35]) = false from by simpa using h35]
    simp only [sif2_f, ap_skip, seq_nx]
    rw [hqe]
    exact key _ rfl
end TH.Q
namespace TH.Q
open TH
/-! ### fitting -/
def isWideB (l : List Nat) : Bool := l == [43] || l == [35]
def one (w n : List Nat) : Bool := w == [43] || w == n
/-- what the laws' own fits comes to -/
def lawFit (ws ns : List (List Nat)) : Bool :=
  if ws.head?.any isWideB && ns.head?.any fun n => n.take 1 == [36] then false else
  if ws.getLast? = some [35] then
    if ns.length < ws.length - 1 then false else (ws.dropLast.zip (ns.take (ws.length - 1))).all fun p => one p.1 p.2
  else if ws.length = ns.length then (ws.zip ns).all fun p => one p.1 p.2 else false
def LawFitsF (F : FF) : Prop := ∀ (w n : List Nat) (st : St), w.length ≤ 16777000 → n.length ≤ 16777000 → F [.str w, .str n] st = .ok (.bl (lawFit (splitL 47 w) (splitL 47 n))) st
def gLawFits : SM := sSeq (sSet 2 (xLst (lSplit (xVar 0) (xC (.str [47])))))
    (sSeq (sSet 3 (xLst (lSplit (xVar 1) (xC (.str [47])))))
    (sSeq (sIf (xAnd (xBin oIn (xBin oIx (xVar 2) (xC (.int 0))) (xTup (aCons (xC (.str [43])) (aCons (xC (.str [35])) (aNil))))) (xBin oEq (xSl (xBin oIx (xVar 3) (xC (.int 0))) none (some (xC (.int 1)))) (xC (.str [36])))) (sRet (xC (.bl false))) (sSkip))
    (sSeq (sIf (xBin oEq (xBin oIx (xVar 2) (xNeg (xC (.int 1)))) (xC (.str [35]))) (sSeq (sSet 2 (xLst (lSl (xVar 2) none (some (xNeg (xC (.int 1)))))))
    (sSeq (sIf (xBin oLt (xB bLen (aCons (xVar 3) (aNil))) (xB bLen (aCons (xVar 2) (aNil)))) (sRet (xC (.bl false))) (sSkip))
    (sSet 3 (xLst (lSl (xVar 3) none (some (xB bLen (aCons (xVar 2) (aNil))))))))) (sSkip))
    (sSeq (sIf (xBin oNe (xB bLen (aCons (xVar 2) (aNil))) (xB bLen (aCons (xVar 3) (aNil)))) (sRet (xC (.bl false))) (sSkip))
    (sRet (xB bAll (aCons (xLst (lComp (iRng1 (xB bLen (aCons (xVar 2) (aNil)))) (.name 4) none (xBin oIn (xBin oIx (xVar 2) (xVar 4)) (xTup (aCons (xC (.str [43])) (aCons (xBin oIx (xVar 3) (xVar 4)) (aNil))))) [4])) (aNil))))))))
theorem wide_in (w : List Nat) (st : St) : oIn (.str w) (.tup [.str [43], .str [35]]) st = some (.bl (isWideB w)) := by
  rw [oIn_tup (by rfl) (by rfl)]
  simp only [List.any_cons, List.any_nil, D.eqv, Bool.or_false, isWideB]
  congr 2
  rw [Bool.eq_iff_iff]; simp only [Bool.or_eq_true, beq_iff_eq]; constructor <;> rintro (h | h) <;> simp [h]
theorem one_in (w n : List Nat) (st : St) : oIn (.str w) (.tup [.str [43], .str n]) st = some (.bl (one w n)) := by
  rw [oIn_tup (by rfl) (by rfl)]
  simp only [List.any_cons, List.any_nil, D.eqv, Bool.or_false, one]
  congr 2
  rw [Bool.eq_iff_iff]; simp only [Bool.or_eq_true, beq_iff_eq]; constructor <;> rintro (h | h) <;> simp [h]
theorem range_zip (ws ns : List (List Nat)) (h : ws.length = ns.length) : (List.range ws.length).all (fun k => one (ws.getD k []) (ns.getD k [])) = (ws.zip ns).all fun p => one p.1 p.2 := by
  induction ws generalizing ns with
  | nil => rfl
  | cons w ws ih =>
    cases ns with
    | nil => simp at h
    | cons n ns =>
      rw [List.length_cons, List.range_succ_eq_map, List.all_cons, List.all_map, List.zip_cons_cons, List.all_cons, ← ih ns (by simpa using h)]
      rfl
def gTail : SM := sSeq (sIf (xBin oNe (xB bLen (aCons (xVar 2) (aNil))) (xB bLen (aCons (xVar 3) (aNil)))) (sRet (xC (.bl false))) (sSkip))
    (sRet (xB bAll (aCons (xLst (lComp (iRng1 (xB bLen (aCons (xVar 2) (aNil)))) (.name 4) none (xBin oIn (xBin oIx (xVar 2) (xVar 4)) (xTup (aCons (xC (.str [43])) (aCons (xBin oIx (xVar 3) (xVar 4)) (aNil))))) [4])) (aNil))))
theorem tail_ok (a b : D) (ws ns : List (List Nat)) (e : Option D) (st : St) (hw : ws.length ≤ 16777216) :
    fin (gTail [some a, some b, some (.lst (ws.map D.str)), some (.lst (ns.map D.str)), none] st) = .ok (.bl (if ws.length = ns.length then (ws.zip ns).all fun p => one p.1 p.2 else false)) st := by
  unfold gTail
  simp
  by_cases h : ws.length = ns.length
  · have h' : (ws.length : Int) = ns.length := by omega
    simp only [h, h', if_true, sif2_f]
    simp [rng1_ok (show ns.length < 2 ^ 62 by omega)]
    rw [cData_map (g := fun k : Nat => D.bl (one (ws.getD k []) (ns.getD k []))) (h := ?h) (hl := by simp; omega)]
    case h =>
      intro k hk
      have hk' := List.mem_range.mp hk
      have e1 : oIx (.lst (ws.map D.str)) (.int (k : Int)) st = some (.str (ws.getD k [])) := by
        rw [oIx_lst]; simp [List.getD_eq_getElem?_getD, List.getElem?_eq_getElem (show k < ws.length by omega)]
      have e2 : oIx (.lst (ns.map D.str)) (.int (k : Int)) st = some (.str (ns.getD k [])) := by
        rw [oIx_lst]; simp [List.getD_eq_getElem?_getD, List.getElem?_eq_getElem hk']
      exact ⟨_, put_name _ _ _ _, by simp [e1, e2, one_in]⟩
    rw [← h]
    have := range_zip ws ns h
    simp only [List.nil_append, bind_ok, ap_val1, ap_cns1, ap_nil, ap_cns2, ap_blt1, bAll_map, ofO_some, bindS_ok, ap_ret1, fin_ret, this]
  · have h' : ¬ (ws.length : Int) = ns.length := by omega
    simp [h, h']
theorem g_law_fits : LawFitsF (body 2 5 gLawFits) := by
  intro w n st hw hn
  rw [ap_body (by rfl)]
  have lw := splitL_len 47 w
  have ln := splitL_len 47 n
  have nw := splitL_ne 47 w
  have nn := splitL_ne 47 n
  have sw := spl2_ok (s := w) (c := 47) (st := st) (by omega) (by decide)
  have sn := spl2_ok (s := n) (c := 47) (st := st) (by omega) (by decide)
  generalize splitL 47 w = ws at lw nw sw
  generalize splitL 47 n = ns at ln nn sn
  obtain ⟨w0, hw0⟩ : ∃ z, ws.head? = some z := by cases ws with | nil => exact absurd rfl nw | cons a b => exact ⟨a, rfl⟩
  obtain ⟨n0, hn0⟩ : ∃ z, ns.head? = some z ∧ z.length ≤ 16777216 := by cases ns with | nil => exact absurd rfl nn | cons a b => exact ⟨a, rfl, by have := ln.2 a List.mem_cons_self; omega⟩
  obtain ⟨z, hz⟩ : ∃ z, ws.getLast? = some z := by
    cases hh : ws.getLast? with
    | none => exact absurd (List.getLast?_eq_none_iff.mp hh) nw
    | some z => exact ⟨z, rfl⟩
  have hp : 0 < ws.length := List.length_pos_iff.mpr nw
  show fin ((sSeq _ (sSeq _ (sSeq _ (sSeq _ gTail)))) _ _) = _
  unfold lawFit
  simp only [hw0, hn0.1, hz, Option.any_some]
  simp [sw, sn, wide_in, xs3_str hn0.2, hw0, hn0.1, hz]
  by_cases hc : isWideB w0 = true ∧ List.take 1 n0 = [36]
  · simp [hc]
  · rw [if_neg hc]
    have hc' : (!isWideB w0 || !decide (List.take 1 n0 = [36])) = true := by
      rw [← Bool.not_and, Bool.not_eq_true', Bool.eq_false_iff]; simpa using hc
    by_cases hz5 : z = [35]
    · subst hz5
      simp only [if_true]
      by_cases hl : ns.length < ws.length - 1
      · have hl' : (ns.length : Int) < ((ws.length - 1 : Nat) : Int) := by omega
        simp [hl, hl']
      · have hl' : ¬ (ns.length : Int) < ((ws.length - 1 : Nat) : Int) := by omega
        simp [hl, hl']
        rw [hc', Bool.true_and, ← List.map_dropLast, ← List.map_take, tail_ok _ _ _ _ none _ (by simp; omega), if_pos (by simp; omega)]
    · simp [hz5]
      rw [hc', Bool.true_and, tail_ok _ _ _ _ none _ (by omega)]
      congr 2
      by_cases h : ws.length = ns.length <;> simp [h]

/-! ### the module of names -/
def gLv : SM := sSeq (sIf (xBin oGt (xB bLen (aCons (xVar 0) (aNil))) (xC (.int 12))) (sRet (xC (.bl false))) (sSkip))
    (sRet (xB bAll (aCons (xLst (lComp (iVal (xVar 0)) (.name 1) none (xAnd (xChain oLe oLt (xC (.int 32)) (xB bOrd (aCons (xVar 1) (aNil))) (xC (.int 127))) (xAnd (xBin oNe (xB bOrd (aCons (xVar 1) (aNil))) (xC (.int 37))) (xBin oNotIn (xVar 1) (xC (.str [43, 35, 47]))))) [1])) (aNil))))
/-- is_level: no slash either -/
def LvF (F : FF) : Prop := ∀ (s : List Nat) (st : St), s.length ≤ 16777216 → F [.str s] st = .ok (.bl (isLv s && !s.contains 47)) st
theorem g_lv : LvF (body 1 2 gLv) := by
  intro s st hs
  rw [ap_body (by rfl)]
  unfold gLv
  simp [bLen_str hs, wk_str hs]
  by_cases h : 12 < s.length
  · have h' : (12 : Int) < s.length := by omega
    simp [h']; intro hh; unfold isLv at hh; simp at hh; omega
  · have h' : ¬ (12 : Int) < s.length := by omega
    simp only [h', if_false]
    rw [cData_map (g := fun c : Nat => D.bl (okc c && !(c == 47))) (h := ?h) (hl := by simp; omega)]
    case h =>
      intro a _
      refine ⟨_, put_name _ _ _ _, ?_⟩
      simp
      unfold okc
      rw [Bool.eq_iff_iff]; simp; omega
    simp
    unfold isLv
    rw [Bool.eq_iff_iff]; simp
    constructor
    · exact fun H => ⟨⟨by omega, fun x hx => (H x hx).1⟩, fun h => (H 47 h).2 rfl⟩
    · exact fun H x hx => ⟨H.1.2 x hx, fun e => H.2 (e ▸ hx)⟩
/-- a level of a text that is split has no slash -/
theorem lv_part {p s : List Nat} (h : p ∈ splitL 47 s) : (isLv p && !p.contains 47) = isLv p := by
  have := splitL_not 47 s p h
  simp [this]
def gLookName (c : Calls) (i : Nat) : SM := sSeq (sSet 1 (xLst (lSplit (xVar 0) (xC (.str [47])))))
    (sIf (xOr (xBin oEq (xVar 0) (xC (.str []))) (xOr (xBin oGt (xB bLen (aCons (xVar 1) (aNil))) (xC (.int 8))) (xNot (xB bAll (aCons (xLst (lComp (iVal (xVar 1)) (.name 2) none (xCall c i (aCons (xVar 2) (aNil))) [2])) (aNil)))))) (sRaise 1) (sSkip))
def LookNameF (F : FF) : Prop := ∀ (s : List Nat) (st : St), s.length ≤ 16777000 → F [.str s] st = if isNm s = true then .ok .non st else .exn 1 st
theorem gt8 (n : Nat) : decide ((8 : Int) < n) = !decide (n ≤ 8) := by rw [Bool.eq_iff_iff]; simp; omega
theorem ite_swap {α : Type} (b : Bool) (x y : α) : (if b = false then x else y) = if b = true then y else x := by cases b <;> rfl
theorem g_look_name {c : Calls} {i : Nat} (h : LvF (c i)) : LookNameF (body 1 3 (gLookName c i)) := by
  intro s st hs
  rw [ap_body (by rfl)]
  unfold gLookName
  have hl := splitL_len 47 s
  simp [spl2_ok (s := s) (c := 47) (st := st) (by omega) (by decide)]
  rw [cData_map (g := fun p : List Nat => D.bl (isLv p)) (h := ?h) (hl := by simp; omega)]
  case h => exact fun p hp => ⟨_, put_name _ _ _ _, by simp [h p st (by have := hl.2 p hp; omega), lv_part hp]; exact fun _ => splitL_not 47 s p hp⟩
  have e : (s.isEmpty || (decide ((8 : Int) < ((splitL 47 s).length : Nat)) || !(splitL 47 s).all isLv)) = !isNm s := by
    unfold isNm
    rw [gt8]
    cases s.isEmpty <;> cases decide ((splitL 47 s).length ≤ 8) <;> cases (splitL 47 s).all isLv <;> rfl
  simp only [List.nil_append, bind_ok, ap_val1, ap_cns1, ap_nil, ap_cns2, ap_blt1, bAll_map, ofO_some, ap_not1, truthy_bl, ap_not2, or3_b, e, bindS_ok, ap_sif1, sif2_b, fin_ite, ap_raise, ap_skip, fin_exn, fin_nx]
  cases isNm s <;> rfl
def gLookWish (c : Calls) (i : Nat) : SM := sSeq (sSet 1 (xLst (lSplit (xVar 0) (xC (.str [47])))))
    (sSeq (sSet 2 (xIf (xBin oEq (xBin oIx (xVar 1) (xNeg (xC (.int 1)))) (xC (.str [35]))) (xLst (lSl (xVar 1) none (some (xNeg (xC (.int 1)))))) (xVar 1)))
    (sIf (xOr (xBin oEq (xVar 0) (xC (.str []))) (xOr (xBin oGt (xB bLen (aCons (xVar 1) (aNil))) (xC (.int 8))) (xNot (xB bAll (aCons (xLst (lComp (iVal (xVar 2)) (.name 3) none (xOr (xBin oEq (xVar 3) (xC (.str [43]))) (xCall c i (aCons (xVar 3) (aNil)))) [3])) (aNil)))))) (sRaise 1) (sSkip)))
def LookWishF (F : FF) : Prop := ∀ (s : List Nat) (st : St), s.length ≤ 16777000 → F [.str s] st = if isWs s = true then .ok .non st else .exn 1 st
theorem wPlain_sub (l : List (List Nat)) : ∀ p ∈ wPlain l, p ∈ l := by
  unfold wPlain
  split
  · exact fun p hp => List.dropLast_subset _ hp
  · exact fun p hp => hp
theorem wPlain_len (l : List (List Nat)) : (wPlain l).length ≤ l.length := by
  unfold wPlain
  split
  · simp
  · exact Nat.le_refl _
theorem g_look_wish {c : Calls} {i : Nat} (h : LvF (c i)) : LookWishF (body 1 4 (gLookWish c i)) := by
  intro s st hs
  rw [ap_body (by rfl)]
  unfold gLookWish
  have hl := splitL_len 47 s
  have hne := splitL_ne 47 s
  obtain ⟨z, hz⟩ : ∃ z, (splitL 47 s).getLast? = some z := by
    cases hh : (splitL 47 s).getLast? with
    | none => exact absurd (List.getLast?_eq_none_iff.mp hh) hne
    | some z => exact ⟨z, rfl⟩
  have hpl : (if z = [35] then (List.map D.str (splitL 47 s)).dropLast else List.map D.str (splitL 47 s)) = (wPlain (splitL 47 s)).map D.str := by
    unfold wPlain
    rw [hz]
    by_cases h : z = [35]
    · rw [if_pos h, if_pos (by rw [h]), List.map_dropLast]
    · rw [if_neg h, if_neg (by simpa using h)]
  simp [spl2_ok (s := s) (c := 47) (st := st) (by omega) (by decide), hz, hpl]
  rw [cData_map (g := fun p : List Nat => D.bl (isWl p)) (h := ?h) (hl := by have := wPlain_len (splitL 47 s); simp; omega)]
  case h =>
    intro p hp
    have hp' := wPlain_sub _ p hp
    have e := h p st (by have := hl.2 p hp'; omega)
    rw [lv_part hp'] at e
    exact ⟨_, put_name _ _ _ _, by simp [e]; rfl⟩
  have e : (s.isEmpty || (decide ((8 : Int) < ((splitL 47 s).length : Nat)) || !(wPlain (splitL 47 s)).all isWl)) = !isWs s := by
    unfold isWs
    rw [gt8]
    cases s.isEmpty <;> cases decide ((splitL 47 s).length ≤ 8) <;> cases (wPlain (splitL 47 s)).all isWl <;> rfl
  simp only [List.nil_append, bind_ok, ap_val1, ap_cns1, ap_nil, ap_cns2, ap_blt1, bAll_map, ofO_some, ap_not1, truthy_bl, ap_not2, or3_b, e, bindS_ok, ap_sif1, sif2_b, fin_ite, ap_raise, ap_skip, fin_exn, fin_nx]
  cases isWs s <;> rfl
def gIsWide : SM := sRet (xBin oIn (xVar 0) (xTup (aCons (xC (.str [43])) (aCons (xC (.str [35])) (aNil)))))
def IsWideF (F : FF) : Prop := ∀ (s : List Nat) (st : St), F [.str s] st = .ok (.bl (isWideB s)) st
theorem g_is_wide : IsWideF (body 1 1 gIsWide) := by
  intro s st
  rw [ap_body (by rfl)]
  unfold gIsWide
  simp [wide_in]
/-- level by level -/
def fitL : List (List Nat) → List (List Nat) → Bool
  | [], ns => ns.isEmpty
  | w :: ws, ns => if w = [35] then true else match ns with
    | [] => false
    | n :: ns => one w n && fitL ws ns
def gFitsL (c : Calls) (i : Nat) : SM := sSeq (sIf (xBin oEq (xLst (lSl (xVar 0) none (some (xC (.int 1))))) (xLst (lLst (aCons (xC (.str [35])) (aNil))))) (sRet (xC (.bl true))) (sSkip))
    (sSeq (sIf (xOr (xNot (xVar 0)) (xNot (xVar 1))) (sRet (xAnd (xNot (xVar 0)) (xNot (xVar 1)))) (sSkip))
    (sRet (xAnd (xBin oIn (xBin oIx (xVar 0) (xC (.int 0))) (xTup (aCons (xC (.str [43])) (aCons (xBin oIx (xVar 1) (xC (.int 0))) (aNil))))) (xCall c i (aCons (xLst (lSl (xVar 0) (some (xC (.int 1))) none)) (aCons (xLst (lSl (xVar 1) (some (xC (.int 1))) none)) (aNil)))))))
def FitsLF (k : Nat) (F : FF) : Prop := ∀ (ws ns : List (List Nat)) (st : St), ws.length < k → (∀ p ∈ ws, ∀ c ∈ p, c < 55296) → F [.lst (ws.map D.str), .lst (ns.map D.str)] st = .ok (.bl (fitL ws ns)) st
theorem fitsL_zero (F : FF) : FitsLF 0 F := fun _ _ _ h => absurd h (Nat.not_lt_zero _)
theorem g_fits_l {c : Calls} {i k : Nat} (h : FitsLF k (c i)) : FitsLF (k + 1) (body 2 2 (gFitsL c i)) := by
  intro ws ns st hk hw
  rw [ap_body (by rfl)]
  unfold gFitsL
  cases ws with
  | nil =>
    have e := oEq_strs (a := []) (b := [[35]]) (st := st) (by simp) (by simp)
    simp only [List.map_nil, List.map_cons] at e
    simp [e, fitL]
  | cons w ws =>
    have e := oEq_strs (a := [w]) (b := [[35]]) (st := st) (by simpa using fun c hc => hw w List.mem_cons_self c hc) (by simp)
    simp only [List.map_nil, List.map_cons] at e
    have e' : ([w] == [[35]]) = decide (w = [35]) := by rw [Bool.eq_iff_iff]; simp
    rw [e'] at e
    by_cases h35 : w = [35]
    · subst h35; simp at e; simp [e, fitL]
    · simp only [h35, decide_false] at e
      cases ns with
      | nil => simp [e, fitL, h35]
      | cons n ns =>
        have ih := h ws ns st (by simpa using hk) fun p hp => hw p (List.mem_cons_of_mem _ hp)
        simp [e, fitL, h35, one_in, ih]
def gFits (c : Calls) (iw inm iwd ifl : Nat) : SM := sSeq (sExpr (xCall c iw (aCons (xVar 0) (aNil))))
    (sSeq (sExpr (xCall c inm (aCons (xVar 1) (aNil))))
    (sSeq (sSet 2 (xLst (lSplit (xVar 0) (xC (.str [47])))))
    (sRet (xAnd (xNot (xAnd (xCall c iwd (aCons (xBin oIx (xVar 2) (xC (.int 0))) (aNil))) (xBm isStr oStarts (xVar 1) (xC (.str [36]))))) (xCall c ifl (aCons (xVar 2) (aCons (xLst (lSplit (xVar 1) (xC (.str [47])))) (aNil))))))))
/-- does a wish fit a name -/
def fitB (w n : List Nat) : Bool := !((splitL 47 w).head?.any isWideB && [36].isPrefixOf n) && fitL (splitL 47 w) (splitL 47 n)
/-- both good -/
def FitsF (F : FF) : Prop := ∀ (w n : List Nat) (st : St), w.length ≤ 16777000 → n.length ≤ 16777000 → F [.str w, .str n] st = if isWs w = true then (if isNm n = true then .ok (.bl (fitB w n)) st else .exn 1 st) else .exn 1 st
theorem isLv_lt {p : List Nat} (h : isLv p = true) : ∀ c ∈ p, c < 127 := by
  intro c hc
  unfold isLv at h
  simp only [Bool.and_eq_true, List.all_eq_true] at h
  have := h.2 c hc
  unfold okc at this
  simp only [Bool.and_eq_true, decide_eq_true_eq] at this
  exact this.1.1.1.2
theorem isWl_lt {p : List Nat} (h : isWl p = true) : ∀ c ∈ p, c < 127 := by
  unfold isWl at h
  rw [Bool.or_eq_true, beq_iff_eq] at h
  rcases h with rfl | h
  · simp
  · exact isLv_lt h
theorem wPlain_or {l : List (List Nat)} {p : List Nat} (hp : p ∈ l) : p ∈ wPlain l ∨ p = [35] := by
  unfold wPlain
  split
  · rename_i h
    obtain ⟨ys, rfl⟩ := List.getLast?_eq_some_iff.mp h
    rw [List.dropLast_concat]
    rcases List.mem_append.mp hp with h | h
    · exact .inl h
    · exact .inr (by simpa using h)
  · exact .inl hp
theorem isWs_lt {w : List Nat} (h : isWs w = true) : ∀ p ∈ splitL 47 w, ∀ c ∈ p, c < 127 := by
  unfold isWs at h
  simp only [Bool.and_eq_true, List.all_eq_true] at h
  intro p hp
  rcases wPlain_or hp with hp | rfl
  · exact isWl_lt (h.2.2 p hp)
  · simp
theorem isWs_len {w : List Nat} (h : isWs w = true) : (splitL 47 w).length ≤ 8 := by
  unfold isWs at h
  simp only [Bool.and_eq_true, decide_eq_true_eq] at h
  exact h.2.1
theorem isNm_len {w : List Nat} (h : isNm w = true) : (splitL 47 w).length ≤ 8 := by
  unfold isNm at h
  simp only [Bool.and_eq_true, decide_eq_true_eq] at h
  exact h.2.1
theorem g_fits {c : Calls} {iw inm iwd ifl : Nat} {k : Nat} (hw : LookWishF (c iw)) (hn : LookNameF (c inm)) (hd : IsWideF (c iwd)) (hf : FitsLF k (c ifl)) (hk : 8 < k) : FitsF (body 2 3 (gFits c iw inm iwd ifl)) := by
  intro w n st hlw hln
  rw [ap_body (by rfl)]
  unfold gFits
  by_cases g1 : isWs w = true
  · by_cases g2 : isNm n = true
    · obtain ⟨w0, wr, hws⟩ := List.exists_cons_of_ne_nil (splitL_ne 47 w)
      have sw := spl2_ok (s := w) (c := 47) (st := st) (by omega) (by decide)
      have sn := spl2_ok (s := n) (c := 47) (st := st) (by omega) (by decide)
      have hf' := hf (splitL 47 w) (splitL 47 n) st (by have := isWs_len g1; omega) fun p hp c hc => by have := isWs_lt g1 p hp c hc; omega
      have hw' := hw w st hlw
      have hn' := hn n st hln
      rw [if_pos g1] at hw'
      rw [if_pos g2] at hn'
      rw [hws] at sw hf'
      simp only [List.map_cons] at sw hf'
      unfold fitB
      rw [hws, if_pos g1, if_pos g2]
      simp [hw', hn', sw, sn, hf', hd w0 st]
    · have hw' := hw w st hlw
      have hn' := hn n st hln
      rw [if_pos g1] at hw'
      rw [if_neg g2] at hn'
      rw [if_pos g1, if_neg g2]
      simp [hw', hn']
  · have hw' := hw w st hlw
    rw [if_neg g1] at hw'
    rw [if_neg g1]
    simp [hw']
end TH.Q
end
section
set_option linter.all false
set_option autoImplicit false
/-! TH11: the plain law of fitting. Plain Lean. -/
namespace TH.Q
open TH
theorem fitL_plain (ws ns : List (List Nat)) (h : ∀ p ∈ ws, p ≠ [35]) : fitL ws ns = if ws.length = ns.length then (ws.zip ns).all fun p => one p.1 p.2 else false := by
  induction ws generalizing ns with
  | nil => cases ns <;> simp [fitL]
  | cons w ws ih =>
    have hw := h w List.mem_cons_self
    cases ns with
    | nil => simp [fitL, hw]
    | cons n ns =>
      simp only [fitL, hw, if_false, ih ns fun p hp => h p (List.mem_cons_of_mem _ hp), List.length_cons, List.zip_cons_cons, List.all_cons]
      by_cases e : ws.length = ns.length <;> simp [e]
theorem fitL_hash (ws ns : List (List Nat)) (h : ∀ p ∈ ws, p ≠ [35]) : fitL (ws ++ [[35]]) ns = if ns.length < ws.length then false else (ws.zip (ns.take ws.length)).all fun p => one p.1 p.2 := by
  induction ws generalizing ns with
  | nil => simp [fitL]
  | cons w ws ih =>
    have hw := h w List.mem_cons_self
    cases ns with
    | nil => simp [fitL, hw]
    | cons n ns =>
      simp only [List.cons_append, fitL, hw, if_false, ih ns fun p hp => h p (List.mem_cons_of_mem _ hp), List.length_cons, List.take_succ_cons, List.zip_cons_cons, List.all_cons]
      by_cases e : ns.length < ws.length
      · simp [e]
      · simp [e]
theorem head_sign (n : List Nat) : ((splitL 47 n).head?.any fun p => p.take 1 == [36]) = [36].isPrefixOf n := by
  cases n with
  | nil => rfl
  | cons a r =>
    by_cases h : a = 47
    · subst h; rw [splitL_same]; rfl
    · obtain ⟨p, ps, h1, h2⟩ := splitL_cons 47 a r h
      rw [h2]
      simp only [List.head?_cons, Option.any_some, List.take_succ_cons, List.take_zero]
      rw [Bool.eq_iff_iff]
      simp [List.isPrefixOf]
      exact eq_comm
theorem isWl_35 {p : List Nat} (h : isWl p = true) : p ≠ [35] := by
  rintro rfl
  exact absurd h (by decide)
theorem lawFit_eq {w n : List Nat} (hw : isWs w = true) : lawFit (splitL 47 w) (splitL 47 n) = fitB w n := by
  unfold lawFit fitB
  rw [← head_sign]
  have hpl : ∀ p ∈ wPlain (splitL 47 w), p ≠ [35] := by
    unfold isWs at hw
    simp only [Bool.and_eq_true, List.all_eq_true] at hw
    exact fun p hp => isWl_35 (hw.2.2 p hp)
  generalize splitL 47 w = ws at *
  generalize splitL 47 n = ns at *
  have hf : fitL ws ns = if ws.getLast? = some [35] then
      if ns.length < ws.length - 1 then false else (ws.dropLast.zip (ns.take (ws.length - 1))).all fun p => one p.1 p.2
      else if ws.length = ns.length then (ws.zip ns).all fun p => one p.1 p.2 else false := by
    unfold wPlain at hpl
    by_cases h : ws.getLast? = some [35]
    · rw [if_pos h] at hpl ⊢
      obtain ⟨ys, rfl⟩ := List.getLast?_eq_some_iff.mp h
      rw [List.dropLast_concat] at hpl ⊢
      rw [fitL_hash ys ns hpl]
      simp
    · rw [if_neg h] at hpl ⊢
      exact fitL_plain ws ns hpl
  rw [hf]
  by_cases hc : (ws.head?.any isWideB && ns.head?.any fun p => p.take 1 == [36]) = true
  · rw [if_pos hc, hc]; rfl
  · rw [if_neg hc, Bool.not_eq_true] at *
    rw [hc]; rfl
end TH.Q
end
section
set_option linter.all false
set_option autoImplicit false
/-! TH12: the plain law of covering and meeting. Plain Lean. -/
namespace TH.Q
open TH
def covL : List (List Nat) → List (List Nat) → Bool
  | [], os => os.isEmpty
  | w :: ws, os => if w = [35] then true else match os with
    | [] => false
    | o :: os => if o = [35] then false else one w o && covL ws os
def plain1 (l : List Nat) : List Nat := if l = [43] then [97] else l
def plainL (ws : List (List Nat)) : List (List Nat) := (ws.filter fun l => !(l == [35])).map plain1
def bothL : List (List Nat) → List (List Nat) → Option (List (List Nat))
  | [], os => if os.head? = some [35] then some [] else if os = [] then some [] else none
  | w :: ws, os => if w = [35] then some (plainL os) else match os with
    | [] => none
    | o :: os => if o = [35] then some (plainL (w :: ws)) else
      if w = o ∨ w = [43] ∨ o = [43] then (bothL ws os).map fun r => plain1 (if w = [43] then o else w) :: r else none
def d0 (l : List (List Nat)) : Bool := l.head?.any fun p => p.take 1 == [36]
def w0 (l : List (List Nat)) : Bool := l.head?.any isWideB
def fixL (os : List (List Nat)) : List (List Nat) := if os = [[35]] ∨ os = [[], [35]] then os.dropLast ++ [[43], [35]] else os
def fitV (ws ns : List (List Nat)) : Bool := !(w0 ws && d0 ns) && fitL ws ns
def covV (ws os : List (List Nat)) : Bool := !(w0 ws && d0 os) && covL ws (fixL os)
theorem fitB_V (w n : List Nat) : fitB w n = fitV (splitL 47 w) (splitL 47 n) := by
  unfold fitB fitV w0 d0
  rw [head_sign]
/-- no hash but at the end -/
inductive GW : List (List Nat) → Prop
  | nil : GW []
  | hash : GW [[35]]
  | cons {p : List Nat} {ps : List (List Nat)} : isWl p = true → GW ps → GW (p :: ps)
theorem gw_of_plain {ps : List (List Nat)} (h : ∀ p ∈ ps, isWl p = true) : GW ps := by
  induction ps with
  | nil => exact .nil
  | cons p ps ih => exact .cons (h p List.mem_cons_self) (ih fun q hq => h q (List.mem_cons_of_mem _ hq))
theorem gw_of_hash {ps : List (List Nat)} (h : ∀ p ∈ ps, isWl p = true) : GW (ps ++ [[35]]) := by
  induction ps with
  | nil => exact .hash
  | cons p ps ih => exact .cons (h p List.mem_cons_self) (ih fun q hq => h q (List.mem_cons_of_mem _ hq))
theorem gw_of {w : List Nat} (h : isWs w = true) : GW (splitL 47 w) := by
  unfold isWs at h
  simp only [Bool.and_eq_true, List.all_eq_true] at h
  have hp := h.2.2
  generalize splitL 47 w = ws at hp
  unfold wPlain at hp
  by_cases e : ws.getLast? = some [35]
  · rw [if_pos e] at hp
    obtain ⟨ys, rfl⟩ := List.getLast?_eq_some_iff.mp e
    rw [List.dropLast_concat] at hp
    exact gw_of_hash hp
  · rw [if_neg e] at hp
    exact gw_of_plain hp
theorem one_self (w : List Nat) : one w w = true := by simp [one]
theorem one_plus (n : List Nat) : one [43] n = true := by simp [one]
theorem one_iff {w n : List Nat} : one w n = true ↔ w = [43] ∨ w = n := by simp [one]
theorem GW.tail {p : List Nat} {ps : List (List Nat)} (h : GW (p :: ps)) : GW ps := by
  cases h with
  | hash => exact .nil
  | cons _ h => exact h
theorem GW.head {p : List Nat} {ps : List (List Nat)} (h : GW (p :: ps)) : p = [35] ∧ ps = [] ∨ p ≠ [35] ∧ isWl p = true := by
  cases h with
  | hash => exact .inl ⟨rfl, rfl⟩
  | cons h _ => exact .inr ⟨isWl_35 h, h⟩
/-! ### what covers fits -/
theorem cov_fit : ∀ (ws os ns : List (List Nat)), covL ws os = true → fitL os ns = true → fitL ws ns = true
  | [], os, ns, h, f => by
    cases os with
    | nil => exact f
    | cons o os => simp [covL] at h
  | w :: ws, os, ns, h, f => by
    unfold covL at h
    unfold fitL
    by_cases hw : w = [35]
    · rw [if_pos hw]
    · rw [if_neg hw] at h ⊢
      cases os with
      | nil => simp at h
      | cons o os =>
        simp only at h
        by_cases ho : o = [35]
        · rw [if_pos ho] at h; cases h
        · rw [if_neg ho, Bool.and_eq_true] at h
          unfold fitL at f
          rw [if_neg ho] at f
          cases ns with
          | nil => simp at f
          | cons n ns =>
            simp only [Bool.and_eq_true] at f ⊢
            refine ⟨?_, cov_fit ws os ns h.2 f.2⟩
            rw [one_iff] at *
            rcases h.1 with e | rfl
            · exact .inl e
            · exact f.1
theorem fix_fit {os ns : List (List Nat)} (hn : ns ≠ []) (hn' : ns ≠ [[]]) (h : fitL os ns = true) : fitL (fixL os) ns = true := by
  unfold fixL
  split
  · rename_i e
    rcases e with rfl | rfl
    · cases ns with
      | nil => exact absurd rfl hn
      | cons n ns => simp [fitL, one]
    · cases ns with
      | nil => exact absurd rfl hn
      | cons n ns =>
        simp only [fitL, if_neg (show ([] : List Nat) ≠ [35] by decide), Bool.and_eq_true] at h
        have e : n = [] := by
          rcases one_iff.mp h.1 with e | e
          · cases e
          · exact e.symm
        subst e
        cases ns with
        | nil => exact absurd rfl hn'
        | cons m ns => simp [fitL, one]
  · exact h
theorem wide_dollar {p : List Nat} (h : isWideB p = true) : (p.take 1 == [36]) = false := by
  unfold isWideB at h
  rw [Bool.or_eq_true, beq_iff_eq, beq_iff_eq] at h
  rcases h with rfl | rfl <;> rfl
theorem w0_d0 {l : List (List Nat)} (h : w0 l = true) : d0 l = false := by
  cases l with
  | nil => rfl
  | cons p ps => exact wide_dollar h
/-- T5 -/
theorem cov_sound {ws os ns : List (List Nat)} (hn : ns ≠ []) (hn' : ns ≠ [[]]) (h : covV ws os = true) (f : fitV os ns = true) : fitV ws ns = true := by
  unfold covV at h
  unfold fitV at f ⊢
  rw [Bool.and_eq_true, Bool.not_eq_true', Bool.and_eq_false_iff] at *
  refine ⟨?_, cov_fit _ _ _ h.2 (fix_fit hn hn' f.2)⟩
  rcases f.1 with fo | fo
  · rcases h.1 with ho | ho
    · exact .inl ho
    · right
      cases ns with
      | nil => exact absurd rfl hn
      | cons n ns =>
        cases os with
        | nil => simp [fitL] at f
        | cons o os =>
          have f2 := f.2
          unfold fitL at f2
          have h35 : o ≠ [35] := by rintro rfl; simp [w0, isWideB] at fo
          rw [if_neg h35, Bool.and_eq_true] at f2
          rcases one_iff.mp f2.1 with e | e
          · subst e; simp [w0, isWideB] at fo
          · subst e; exact ho
  · exact .inr fo
end TH.Q
namespace TH.Q
open TH
/-! ### a wish's plainest names -/
/-- plus is f; no hash -/
def instL (f : List Nat) (os : List (List Nat)) : List (List Nat) := (os.filter fun l => !(l == [35])).map fun l => if l = [43] then f else l
theorem instL_cons {f o : List Nat} {os : List (List Nat)} (h : o ≠ [35]) : instL f (o :: os) = (if o = [43] then f else o) :: instL f os := by
  simp [instL, h]
theorem instL_hash {f : List Nat} : instL f [[35]] = [] := by simp [instL]
def hashed (os : List (List Nat)) : Bool := os.contains [35]
/-- a wish fits its plainest names; what follows a hash may be longer -/
theorem inst_fit (f : List Nat) : ∀ (os : List (List Nat)), GW os → fitL os (instL f os) = true ∧ (hashed os = true → ∀ x, fitL os (instL f os ++ x) = true)
  | [], _ => ⟨rfl, fun h => by cases h⟩
  | o :: os, g => by
    rcases g.head with ⟨rfl, rfl⟩ | ⟨h35, _⟩
    · simp [instL_hash, fitL]
    · have ih := inst_fit f os g.tail
      rw [instL_cons h35]
      have e : one o (if o = [43] then f else o) = true := by
        split
        · rename_i h; rw [h]; exact one_plus _
        · exact one_self _
      constructor
      · simp [fitL, h35, e, ih.1]
      · intro h x
        have h' : hashed os = true := by
          unfold hashed at h ⊢
          rw [List.contains_cons, Bool.or_eq_true, beq_iff_eq] at h
          exact h.resolve_left fun e => h35 e.symm
        simp [fitL, h35, e, ih.2 h' x]
/-- what fits the plainest name, and one level more of it, covers -/
theorem cov_of_inst (f : List Nat) (hf : f ≠ [43]) : ∀ (ws os : List (List Nat)), GW ws → GW os → f ∉ ws → fitL ws (instL f os) = true → (hashed os = true → fitL ws (instL f os ++ [f]) = true) → covL ws os = true
  | [], os, _, go, _, h, h2 => by
    cases os with
    | nil => rfl
    | cons o os =>
      rcases go.head with ⟨rfl, rfl⟩ | ⟨h35, _⟩
      · have := h2 (by rfl)
        simp [instL_hash, fitL] at this
      · rw [instL_cons h35] at h; simp [fitL] at h
  | w :: ws, os, gw, go, hn, h, h2 => by
    unfold covL
    by_cases hw : w = [35]
    · rw [if_pos hw]
    · rw [if_neg hw]
      cases os with
      | nil => simp [instL, fitL, hw] at h
      | cons o os =>
        rcases go.head with ⟨rfl, rfl⟩ | ⟨h35, _⟩
        · simp [instL_hash, fitL, hw] at h
        · simp only [if_neg h35, Bool.and_eq_true]
          rw [instL_cons h35] at h h2
          simp only [fitL, if_neg hw, Bool.and_eq_true, List.cons_append] at h h2
          refine ⟨?_, cov_of_inst f hf ws os gw.tail go.tail (fun e => hn (List.mem_cons_of_mem _ e)) h.2 fun hh => (h2 (by
            unfold hashed at hh ⊢
            rw [List.contains_cons, hh, Bool.or_true])).2⟩
          rw [one_iff] at *
          rcases h.1 with e | e
          · exact .inl e
          · by_cases ho : o = [43]
            · rw [if_pos ho] at e; exact absurd (e ▸ List.mem_cons_self) hn
            · rw [if_neg ho] at e; exact .inr e
theorem GW.fix {os : List (List Nat)} (g : GW os) : GW (fixL os) := by
  unfold fixL
  split
  · rename_i e
    rcases e with rfl | rfl
    · exact .cons (by decide) .hash
    · exact .cons (by decide) (.cons (by decide) .hash)
  · exact g
/-- the names of the plainest levels, of the wish as covers takes it -/
theorem fix_fit_back {os ns : List (List Nat)} (h : fitL (fixL os) ns = true) : fitL os ns = true := by
  unfold fixL at h
  split at h
  · rename_i e
    rcases e with rfl | rfl
    · simp [fitL]
    · cases ns with
      | nil => simp [fitL] at h
      | cons n ns =>
        simp only [List.dropLast, List.cons_append, List.nil_append, fitL, if_neg (show ([] : List Nat) ≠ [35] by decide), Bool.and_eq_true] at h
        simp [fitL, h.1]
  · exact h
/-- a name made so is one -/
theorem inst_ne {f : List Nat} {os : List (List Nat)} (hf : f ≠ []) (g : GW os) (h0 : os ≠ []) (h1 : os ≠ [[]]) : instL f (fixL os) ≠ [] ∧ instL f (fixL os) ≠ [[]] := by
  unfold fixL
  by_cases e : os = [[35]] ∨ os = [[], [35]]
  · rw [if_pos e]
    rcases e with rfl | rfl
    · simp [instL, hf]
    · simp [instL]
  · rw [if_neg e]
    cases os with
    | nil => exact absurd rfl h0
    | cons o os =>
      rcases g.head with ⟨rfl, rfl⟩ | ⟨h35, _⟩
      · exact absurd (.inl rfl) e
      · rw [instL_cons h35]
        refine ⟨by simp, fun h => ?_⟩
        rw [List.cons.injEq] at h
        by_cases ho : o = [43]
        · rw [if_pos ho] at h; exact hf h.1
        · rw [if_neg ho] at h
          obtain ⟨rfl, h⟩ := h
          cases os with
          | nil => exact h1 rfl
          | cons p ps =>
            rcases g.tail.head with ⟨rfl, rfl⟩ | ⟨h35', _⟩
            · exact e (.inr rfl)
            · rw [instL_cons h35'] at h; cases h
theorem inst_d0 {f : List Nat} {os : List (List Nat)} (hf : (f.take 1 == [36]) = false) (g : GW os) : (d0 (instL f (fixL os)) = d0 os) ∧ ∀ x, (f :: x = [] ∨ True) → d0 (instL f (fixL os) ++ [f]) = d0 os := by
  unfold fixL
  by_cases e : os = [[35]] ∨ os = [[], [35]]
  · rw [if_pos e]
    rcases e with rfl | rfl
    · simp [instL, d0] at hf ⊢; exact hf
    · simp [instL, d0] at hf ⊢
  · rw [if_neg e]
    cases os with
    | nil => simp [instL, d0] at hf ⊢; exact hf
    | cons o os =>
      rcases g.head with ⟨rfl, rfl⟩ | ⟨h35, _⟩
      · exact absurd (.inl rfl) e
      · rw [instL_cons h35]
        by_cases ho : o = [43]
        · subst ho; simp [d0] at hf ⊢; exact hf
        · simp [d0, ho]
/-- T6: what doesn't cover misses a name -/
theorem cov_compl {ws os : List (List Nat)} {f : List Nat} (gw : GW ws) (go : GW os) (hf : f ≠ [43]) (hf' : (f.take 1 == [36]) = false) (hn : f ∉ ws) (h : covV ws os = false) :
    ∃ ns, (ns = instL f (fixL os) ∨ (hashed (fixL os) = true ∧ ns = instL f (fixL os) ++ [f])) ∧ fitV os ns = true ∧ fitV ws ns = false := by
  have hi := inst_fit f (fixL os) go.fix
  obtain ⟨dd1, dd2⟩ := inst_d0 (os := os) hf' go
  have dd2 := dd2 [] (.inr trivial)
  have fo : ∀ ns, d0 ns = d0 os → fitL (fixL os) ns = true → fitV os ns = true := by
    intro ns hd hfit
    unfold fitV
    rw [fix_fit_back hfit, hd, Bool.and_true, Bool.not_eq_true']
    cases hw : w0 os with
    | false => rfl
    | true => rw [w0_d0 hw]; rfl
  unfold covV at h
  rw [Bool.and_eq_false_iff, Bool.not_eq_false', Bool.and_eq_true] at h
  rcases h with ⟨a, b⟩ | h
  · refine ⟨_, .inl rfl, fo _ dd1 hi.1, ?_⟩
    unfold fitV
    rw [a, dd1, b]; rfl
  · by_cases c1 : fitL ws (instL f (fixL os)) = true
    · by_cases c2 : hashed (fixL os) = true ∧ fitL ws (instL f (fixL os) ++ [f]) = false
      · refine ⟨_, .inr ⟨c2.1, rfl⟩, fo _ dd2 (hi.2 c2.1 _), ?_⟩
        unfold fitV
        rw [c2.2, Bool.and_false]
      · have := cov_of_inst f hf ws (fixL os) gw go.fix hn c1 fun hh => by
          cases hx : fitL ws (instL f (fixL os) ++ [f]) with
          | true => rfl
          | false => exact absurd ⟨hh, hx⟩ c2
        rw [this] at h; cases h
    · refine ⟨_, .inl rfl, fo _ dd1 hi.1, ?_⟩
      unfold fitV
      rw [Bool.not_eq_true] at c1
      rw [c1, Bool.and_false]
/-- T1 -/
theorem covL_self : ∀ ws : List (List Nat), GW ws → covL ws ws = true
  | [], _ => rfl
  | w :: ws, g => by
    unfold covL
    by_cases h : w = [35]
    · rw [if_pos h]
    · rw [if_neg h]
      simp only [if_neg h, one_self, covL_self ws g.tail, Bool.and_self]
theorem cov_self {ws : List (List Nat)} (g : GW ws) : covV ws ws = true := by
  unfold covV
  rw [Bool.and_eq_true]
  constructor
  · rw [Bool.not_eq_true']
    cases h : w0 ws with
    | false => rfl
    | true => rw [w0_d0 h]; rfl
  · unfold fixL
    split
    · rename_i e
      rcases e with rfl | rfl
      · decide
      · decide
    · exact covL_self ws g
end TH.Q
namespace TH.Q
open TH
/-! ### meeting -/
theorem plainL_cons {o : List Nat} {os : List (List Nat)} (h : o ≠ [35]) : plainL (o :: os) = plain1 o :: plainL os := by
  simp [plainL, h]
theorem plainL_hash : plainL [[35]] = [] := by simp [plainL]
theorem plain_lv {o : List Nat} (h : isWl o = true) : isLv (plain1 o) = true := by
  unfold plain1
  split
  · decide
  · rename_i hn
    unfold isWl at h
    simpa [hn] using h
theorem plainL_lv : ∀ (os : List (List Nat)), GW os → ∀ p ∈ plainL os, isLv p = true
  | [], _ => by simp [plainL]
  | o :: os, g => by
    rcases g.head with ⟨rfl, rfl⟩ | ⟨h35, hl⟩
    · simp [plainL_hash]
    · rw [plainL_cons h35]
      intro p hp
      rcases List.mem_cons.mp hp with rfl | hp
      · exact plain_lv hl
      · exact plainL_lv os g.tail p hp
theorem plainL_fit : ∀ (os : List (List Nat)), GW os → fitL os (plainL os) = true := fun os g => by
  have := (inst_fit [97] os g).1
  exact this
theorem plainL_len (os : List (List Nat)) : (plainL os).length ≤ os.length := by
  unfold plainL
  rw [List.length_map]
  exact List.length_filter_le _ _
theorem one_plain (w : List Nat) : one w (plain1 w) = true := by
  rw [one_iff]; unfold plain1; split
  · rename_i h; exact .inl h
  · exact .inr rfl
/-- what both comes to fits both -/
theorem both_fit : ∀ (ws os r : List (List Nat)), GW ws → GW os → bothL ws os = some r → fitL ws r = true ∧ fitL os r = true ∧ (∀ p ∈ r, isLv p = true) ∧ r.length ≤ max ws.length os.length
  | [], os, r, gw, go, h => by
    unfold bothL at h
    split at h
    · rename_i e
      cases h
      cases os with
      | nil => cases e
      | cons o os =>
        cases e
        simp [fitL]
    · split at h
      · rename_i e; subst e; cases h; simp [fitL]
      · cases h
  | w :: ws, os, r, gw, go, h => by
    unfold bothL at h
    split at h
    · rename_i e
      subst e
      cases h
      exact ⟨by simp [fitL], plainL_fit os go, plainL_lv os go, by have := plainL_len os; simp; omega⟩
    · rename_i hw
      cases os with
      | nil => cases h
      | cons o os =>
        simp only at h
        split at h
        · rename_i e
          subst e
          cases h
          exact ⟨plainL_fit _ gw, by simp [fitL], plainL_lv _ gw, by have := plainL_len (w :: ws); simp at this ⊢; omega⟩
        · rename_i ho
          split at h
          · rename_i hm
            obtain ⟨q, hq, rfl⟩ := Option.map_eq_some_iff.mp h
            obtain ⟨h1, h2, h3, h4⟩ := both_fit ws os q gw.tail go.tail hq
            have lw : isWl w = true := (gw.head.resolve_left fun e => hw e.1).2
            have lo : isWl o = true := (go.head.resolve_left fun e => ho e.1).2
            have e1 : one w (plain1 (if w = [43] then o else w)) = true := by
              split
              · rename_i e; rw [e]; exact one_plus _
              · exact one_plain w
            have e2 : one o (plain1 (if w = [43] then o else w)) = true := by
              split
              · exact one_plain o
              · rename_i e
                rcases hm with rfl | hm | rfl
                · exact one_plain w
                · exact absurd hm e
                · exact one_plus _
            refine ⟨by simp [fitL, hw, e1, h1], by simp [fitL, ho, e2, h2], ?_, by simp; omega⟩
            intro p hp
            rcases List.mem_cons.mp hp with rfl | hp
            · split
              · exact plain_lv lo
              · exact plain_lv lw
            · exact h3 p hp
          · cases h
/-- T4 -/
theorem both_some : ∀ (ws os ns : List (List Nat)), fitL ws ns = true → fitL os ns = true → ∃ r, bothL ws os = some r
  | [], os, ns, h, f => by
    unfold bothL
    cases ns with
    | nil =>
      cases os with
      | nil => simp
      | cons o os =>
        by_cases e : o = [35]
        · simp [e]
        · simp [fitL, e] at f
    | cons n ns => simp [fitL] at h
  | w :: ws, os, ns, h, f => by
    unfold bothL
    by_cases hw : w = [35]
    · rw [if_pos hw]; exact ⟨_, rfl⟩
    · rw [if_neg hw]
      unfold fitL at h
      rw [if_neg hw] at h
      cases ns with
      | nil => simp at h
      | cons n ns =>
        cases os with
        | nil => simp [fitL] at f
        | cons o os =>
          simp only
          by_cases ho : o = [35]
          · rw [if_pos ho]; exact ⟨_, rfl⟩
          · rw [if_neg ho]
            simp only [fitL, if_neg ho, Bool.and_eq_true] at h f
            obtain ⟨r, hr⟩ := both_some ws os ns h.2 f.2
            have : w = o ∨ w = [43] ∨ o = [43] := by
              rcases one_iff.mp h.1 with e | e
              · exact .inr (.inl e)
              · rcases one_iff.mp f.1 with e' | e'
                · exact .inr (.inr e')
                · exact .inl (e.trans e'.symm)
            rw [if_pos this, hr]
            exact ⟨_, rfl⟩
theorem plainL_nil {os : List (List Nat)} (g : GW os) (h : plainL os = []) : os = [] ∨ os = [[35]] := by
  cases os with
  | nil => exact .inl rfl
  | cons o os =>
    rcases g.head with ⟨rfl, rfl⟩ | ⟨h35, _⟩
    · exact .inr rfl
    · rw [plainL_cons h35] at h; cases h
theorem plain1_nil {o : List Nat} (h : plain1 o = []) : o = [] := by
  unfold plain1 at h
  split at h
  · cases h
  · exact h
theorem both_nil {ws os : List (List Nat)} (gw : GW ws) (go : GW os) (h : bothL ws os = some []) : (ws = [] ∨ ws = [[35]]) ∧ (os = [] ∨ os = [[35]]) := by
  cases ws with
  | nil =>
    unfold bothL at h
    refine ⟨.inl rfl, ?_⟩
    split at h
    · rename_i e
      cases os with
      | nil => cases e
      | cons o os =>
        cases e
        rcases go.head with ⟨_, rfl⟩ | ⟨h35, _⟩
        · exact .inr rfl
        · exact absurd rfl h35
    · split at h
      · rename_i e; exact .inl e
      · cases h
  | cons w ws =>
    unfold bothL at h
    split at h
    · rename_i e
      subst e
      rcases gw.head with ⟨_, rfl⟩ | ⟨h35, _⟩
      · exact ⟨.inr rfl, plainL_nil go (Option.some.inj h)⟩
      · exact absurd rfl h35
    · rename_i hw
      cases os with
      | nil => cases h
      | cons o os =>
        simp only at h
        split at h
        · rw [plainL_cons hw] at h; cases h
        · split at h
          · obtain ⟨q, _, e⟩ := Option.map_eq_some_iff.mp h
            cases e
          · cases h
/-- one empty level, and names that fit both: then /a does -/
theorem both_slash {ws os ns : List (List Nat)} (gw : GW ws) (go : GW os) (h : bothL ws os = some [[]]) (hn : ns ≠ []) (hn' : ns ≠ [[]]) (f1 : fitL ws ns = true) (f2 : fitL os ns = true) : fitL ws [[], [97]] = true ∧ fitL os [[], [97]] = true := by
  have sl : ∀ os : List (List Nat), GW os → plainL os = [[]] → fitL os ns = true → fitL os [[], [97]] = true := by
    intro os go h f
    cases os with
    | nil => cases h
    | cons o os =>
      rcases go.head with ⟨rfl, rfl⟩ | ⟨h35, _⟩
      · cases h
      · rw [plainL_cons h35, List.cons.injEq] at h
        have e := plain1_nil h.1
        subst e
        rcases plainL_nil go.tail h.2 with rfl | rfl
        · cases ns with
          | nil => exact absurd rfl hn
          | cons n ns =>
            simp only [fitL, if_neg h35, Bool.and_eq_true, List.isEmpty_iff] at f
            obtain ⟨a, rfl⟩ := f
            rcases one_iff.mp a with e | e
            · cases e
            · exact absurd (by rw [e]) hn'
        · simp [fitL, one]
  cases ws with
  | nil =>
    unfold bothL at h
    split at h
    · cases h
    · split at h <;> cases h
  | cons w ws =>
    unfold bothL at h
    split at h
    · rename_i e
      subst e
      exact ⟨by simp [fitL], sl os go (Option.some.inj h) f2⟩
    · rename_i hw
      cases os with
      | nil => cases h
      | cons o os =>
        simp only at h
        split at h
        · rename_i e
          subst e
          exact ⟨sl _ gw (Option.some.inj h) f1, by simp [fitL]⟩
        · rename_i ho
          split at h
          · rename_i hm
            obtain ⟨q, hq, e⟩ := Option.map_eq_some_iff.mp h
            rw [List.cons.injEq] at e
            obtain ⟨e, rfl⟩ := e
            have e := plain1_nil e
            obtain ⟨a, b⟩ := both_nil gw.tail go.tail hq
            cases ns with
            | nil => simp [fitL, hw] at f1
            | cons n ns =>
              simp only [fitL, if_neg hw, if_neg ho, Bool.and_eq_true] at f1 f2
              have hw' : w = [43] ∨ w = [] := by
                split at e
                · rename_i h; exact .inl h
                · exact .inr e
              have ho' : o = [43] ∨ o = [] := by
                split at e
                · exact .inr e
                · subst e
                  rcases hm with e | e | e
                  · exact .inr e.symm
                  · cases e
                  · exact .inl e
              have hnn : n = [] := by
                split at e
                · subst e
                  rcases one_iff.mp f2.1 with e | e
                  · cases e
                  · exact e.symm
                · subst e
                  rcases one_iff.mp f1.1 with e | e
                  · cases e
                  · exact e.symm
              subst hnn
              have hns : ns ≠ [] := fun e => hn' (by rw [e])
              have t : ∀ l : List (List Nat), (l = [] ∨ l = [[35]]) → fitL l ns = true → fitL l [[97]] = true := by
                rintro l (rfl | rfl) f
                · cases ns with
                  | nil => exact absurd rfl hns
                  | cons _ _ => simp [fitL] at f
                · simp [fitL]
              have o1 : ∀ p : List Nat, (p = [43] ∨ p = []) → one p [] = true := by
                rintro p (rfl | rfl) <;> rfl
              exact ⟨by simp [fitL, hw, o1 w hw', t ws a f1.2], by simp [fitL, ho, o1 o ho', t os b f2.2]⟩
          · cases h
/-- the name that both fit, level by level; none: there is none -/
def meetV (ws os : List (List Nat)) : Option (List (List Nat)) :=
  if (w0 ws && d0 os) || (w0 os && d0 ws) then none else
  match bothL ws os with
  | none => none
  | some r => if r = [] then some [[97]] else if r = [[]] then (if fitV ws [[], [97]] && fitV os [[], [97]] then some [[], [97]] else none) else some r
theorem d0_d {ws ns : List (List Nat)} (f : fitL ws ns = true) (h : w0 ws = false) : d0 ws = d0 ns := by
  cases ws with
  | nil => cases ns with
    | nil => rfl
    | cons _ _ => simp [fitL] at f
  | cons w ws =>
    have hw : w ≠ [35] := by rintro rfl; simp [w0, isWideB] at h
    cases ns with
    | nil => simp [fitL, hw] at f
    | cons n ns =>
      simp only [fitL, if_neg hw, Bool.and_eq_true] at f
      rcases one_iff.mp f.1 with e | e
      · subst e; simp [w0, isWideB] at h
      · subst e; rfl
/-- T2 -/
theorem meet_sound {ws os r : List (List Nat)} (gw : GW ws) (go : GW os) (nw : ws ≠ []) (no : os ≠ []) (h : meetV ws os = some r) :
    fitV ws r = true ∧ fitV os r = true ∧ (∀ p ∈ r, isLv p = true) ∧ r.length ≤ max (max ws.length os.length) 2 ∧ r ≠ [] ∧ r ≠ [[]] := by
  unfold meetV at h
  split at h
  · cases h
  · rename_i hd
    rw [Bool.not_eq_true, Bool.or_eq_false_iff, Bool.and_eq_false_iff, Bool.and_eq_false_iff] at hd
    cases hb : bothL ws os with
    | none => rw [hb] at h; cases h
    | some q =>
      rw [hb] at h
      simp only at h
      split at h
      · rename_i e
        subst e
        cases h
        obtain ⟨a, b⟩ := both_nil gw go hb
        have a := a.resolve_left nw
        have b := b.resolve_left no
        subst a b
        refine ⟨by decide, by decide, by decide, by simp, by simp, by simp⟩
      · rename_i e0
        split at h
        · split at h
          · rename_i e
            cases h
            rw [Bool.and_eq_true] at e
            exact ⟨e.1, e.2, by decide, by simp; omega, by simp, by simp⟩
          · cases h
        · rename_i e1
          cases h
          obtain ⟨h1, h2, h3, h4⟩ := both_fit ws os _ gw go hb
          have k : ∀ a b : List (List Nat), fitL a r = true → fitL b r = true → (w0 a = false ∨ d0 b = false) → (w0 b = false ∨ d0 a = false) → (w0 a = true → w0 b = true → d0 r = false) → fitV a r = true := by
            intro a b fa fb ha hb hc
            unfold fitV
            rw [fa, Bool.and_true, Bool.not_eq_true', Bool.and_eq_false_iff]
            cases hwa : w0 a with
            | false => exact .inl rfl
            | true =>
              right
              rcases ha with ha | ha
              · rw [hwa] at ha; cases ha
              · cases hwb : w0 b with
                | false => rw [← d0_d fb hwb]; exact ha
                | true => exact hc hwa hwb
          have hc : w0 ws = true → w0 os = true → d0 r = false := by
            intro hw ho
            have wp : ∀ p : List Nat, isWideB p = true → p ≠ [35] → p = [43] := by
              intro p hp hn
              unfold isWideB at hp
              rw [Bool.or_eq_true, beq_iff_eq, beq_iff_eq] at hp
              exact hp.resolve_right hn
            cases ws with
            | nil => exact absurd rfl nw
            | cons w ws =>
              cases os with
              | nil => exact absurd rfl no
              | cons o os =>
                have pl : ∀ (p : List Nat) (l : List (List Nat)), isWideB p = true → d0 (plainL (p :: l)) = false ∨ p = [35] := by
                  intro p l hp
                  by_cases e : p = [35]
                  · exact .inr e
                  · left; rw [plainL_cons e, wp p hp e]; rfl
                unfold bothL at hb
                split at hb
                · cases hb
                  rcases pl o os ho with h | h
                  · exact h
                  · subst h
                    rcases go.head with ⟨_, rfl⟩ | ⟨h35, _⟩
                    · rfl
                    · exact absurd rfl h35
                · rename_i hw35
                  simp only at hb
                  split at hb
                  · cases hb
                    exact (pl w ws hw).resolve_right hw35
                  · rename_i ho35
                    split at hb
                    · obtain ⟨q, _, e⟩ := Option.map_eq_some_iff.mp hb
                      rw [← e, wp w hw hw35, wp o ho ho35]
                      rfl
                    · cases hb
          exact ⟨k ws os h1 h2 hd.1 hd.2 hc, k os ws h2 h1 hd.2 hd.1 fun a b => hc b a, h3, by omega, e0, e1⟩
/-- T4 -/
theorem meet_some {ws os ns : List (List Nat)} (gw : GW ws) (go : GW os) (hn : ns ≠ []) (hn' : ns ≠ [[]]) (f1 : fitV ws ns = true) (f2 : fitV os ns = true) : ∃ r, meetV ws os = some r := by
  have f1' := f1
  have f2' := f2
  unfold fitV at f1 f2
  rw [Bool.and_eq_true, Bool.not_eq_true', Bool.and_eq_false_iff] at f1 f2
  unfold meetV
  have c : ∀ a b : List (List Nat), (w0 a = false ∨ d0 ns = false) → fitL b ns = true → (w0 a && d0 b) = false := by
    intro a b h f
    rw [Bool.and_eq_false_iff]
    rcases h with h | h
    · exact .inl h
    · right
      cases hw : w0 b with
      | true => exact w0_d0 hw
      | false => rw [d0_d f hw]; exact h
  rw [c ws os f1.1 f2.2, c os ws f2.1 f1.2]
  obtain ⟨r, hr⟩ := both_some ws os ns f1.2 f2.2
  simp only [Bool.or_self, Bool.false_eq_true, if_false, hr]
  split
  · exact ⟨_, rfl⟩
  · split
    · rename_i e
      subst e
      obtain ⟨s1, s2⟩ := both_slash gw go hr hn hn' f1.2 f2.2
      have z : ∀ l, fitL l [[], [97]] = true → fitV l [[], [97]] = true := by
        intro l h
        unfold fitV
        rw [h]
        simp [d0]
      rw [z ws s1, z os s2]
      exact ⟨_, rfl⟩
    · exact ⟨_, rfl⟩
theorem dollar_a : ((97 :: ([] : List Nat)).take 1 == [36]) = false := rfl
/-- a good wish has a name -/
theorem wish_name {os : List (List Nat)} (g : GW os) (h0 : os ≠ []) (h1 : os ≠ [[]]) : ∃ ns, ns ≠ [] ∧ ns ≠ [[]] ∧ fitV os ns = true := by
  obtain ⟨a, b⟩ := inst_ne (f := [97]) (by simp) g h0 h1
  obtain ⟨c, _⟩ := inst_d0 (f := [97]) rfl g
  refine ⟨_, a, b, ?_⟩
  unfold fitV
  rw [fix_fit_back (inst_fit [97] (fixL os) g.fix).1, c, Bool.and_true, Bool.not_eq_true']
  cases hw : w0 os with
  | false => rfl
  | true => rw [w0_d0 hw]; rfl
/-- T3: what covers is met -/
theorem cov_meet {ws os : List (List Nat)} (gw : GW ws) (go : GW os) (h0 : os ≠ []) (h1 : os ≠ [[]]) (h : covV ws os = true) : (∃ r, meetV ws os = some r) ∧ ∃ r, meetV os ws = some r := by
  obtain ⟨ns, n0, n1, f⟩ := wish_name go h0 h1
  have f' := cov_sound n0 n1 h f
  exact ⟨meet_some gw go n0 n1 f' f, meet_some go gw n0 n1 f f'⟩
/-- T8 -/
theorem meet_symm {ws os r : List (List Nat)} (gw : GW ws) (go : GW os) (nw : ws ≠ []) (no : os ≠ []) (h : meetV ws os = some r) : ∃ r, meetV os ws = some r := by
  obtain ⟨a, b, _, _, c, d⟩ := meet_sound gw go nw no h
  exact meet_some go gw c d b a
theorem nodup_len : ∀ (l m : List (List Nat)), l.Nodup → (∀ x ∈ l, x ∈ m) → l.length ≤ m.length
  | [], _, _, _ => Nat.zero_le _
  | a :: l, m, h, s => by
    rw [List.nodup_cons] at h
    have ha := s a List.mem_cons_self
    have := nodup_len l (m.erase a) h.2 fun x hx => (List.mem_erase_of_ne (fun e : x = a => h.1 (e ▸ hx))).mpr (s x (List.mem_cons_of_mem _ hx))
    rw [List.length_erase_of_mem ha] at this
    have : 0 < m.length := List.length_pos_of_mem ha
    simp only [List.length_cons]; omega
/-- a level that isn't among these -/
theorem fresh_lv (ws : List (List Nat)) (h : ws.length ≤ 8) : ∃ f : List Nat, f ≠ [43] ∧ (f.take 1 == [36]) = false ∧ f ∉ ws ∧ f ≠ [] := by
  let some : List (List Nat) := [[97], [98], [99], [100], [101], [102], [103], [104], [105]]
  have hs : some.Nodup := by decide
  have : ∃ f ∈ some, f ∉ ws := by
    by_cases h' : ∃ f ∈ some, f ∉ ws
    · exact h'
    · have sub : some ⊆ ws := fun f hf => by
        by_cases e : f ∈ ws
        · exact e
        · exact absurd ⟨f, hf, e⟩ h'
      have := nodup_len _ _ hs sub
      have e : some.length = 9 := rfl
      omega
  obtain ⟨f, hf, hn⟩ := this
  refine ⟨f, ?_, ?_, hn, ?_⟩
  · rintro rfl; revert hf; decide
  · simp only [some, List.mem_cons, List.not_mem_nil, or_false] at hf
    rcases hf with rfl | rfl | rfl | rfl | rfl | rfl | rfl | rfl | rfl <;> rfl
  · rintro rfl; revert hf; decide
/-- T7 -/
theorem cov_trans {ws os ts : List (List Nat)} (gw : GW ws) (gt : GW ts) (h8 : ws.length ≤ 8) (h0 : ts ≠ []) (h1 : ts ≠ [[]]) (a : covV ws os = true) (b : covV os ts = true) : covV ws ts = true := by
  cases h : covV ws ts with
  | true => rfl
  | false =>
    obtain ⟨f, f1, f2, f3, f4⟩ := fresh_lv ws h8
    obtain ⟨ns, hns, g1, g2⟩ := cov_compl gw gt f1 f2 f3 h
    have nn : ns ≠ [] ∧ ns ≠ [[]] := by
      obtain ⟨x, y⟩ := inst_ne f4 gt h0 h1
      rcases hns with rfl | ⟨_, rfl⟩
      · exact ⟨x, y⟩
      · refine ⟨by simp, fun e => ?_⟩
        cases hi : instL f (fixL ts) with
        | nil => exact x hi
        | cons p ps => rw [hi] at e; simp at e
    have := cov_sound nn.1 nn.2 a (cov_sound nn.1 nn.2 b g1)
    rw [this] at g2; cases g2
end TH.Q
end
section
set_option linter.all false
set_option autoImplicit false
/-! TH13: covers, meeting: what the program's functions answer. Plain Lean. -/
namespace TH.Q
open TH
def okC (l : List (List Nat)) : Prop := ∀ p ∈ l, ∀ c ∈ p, c < 55296
theorem okC.tail {p : List Nat} {l : List (List Nat)} (h : okC (p :: l)) : okC l := fun q hq => h q (List.mem_cons_of_mem _ hq)
theorem eq_hash {ws : List (List Nat)} (h : okC ws) (st : St) : oEq (.lst ((ws.map D.str).take 1)) (.lst [.str [35]]) st = some (.bl (ws.head? == some [35])) := by
  cases ws with
  | nil => rfl
  | cons w ws =>
    have := oEq_strs (a := [w]) (b := [[35]]) (st := st) (by simpa using fun c hc => h w List.mem_cons_self c hc) (by simp)
    simp only [List.map_cons, List.map_nil] at this
    simp only [List.map_cons, List.take_succ_cons, List.take_zero, this, List.head?_cons]
    congr 2
    rw [Bool.eq_iff_iff]; simp
def gCovL (c : Calls) (i : Nat) : SM := sSeq (sIf (xBin oEq (xLst (lSl (xVar 0) none (some (xC (.int 1))))) (xLst (lLst (aCons (xC (.str [35])) (aNil))))) (sRet (xC (.bl true))) (sSkip))
    (sSeq (sIf (xOr (xNot (xVar 0)) (xNot (xVar 1))) (sRet (xAnd (xNot (xVar 0)) (xNot (xVar 1)))) (sSkip))
    (sSeq (sIf (xBin oEq (xBin oIx (xVar 1) (xC (.int 0))) (xC (.str [35]))) (sRet (xC (.bl false))) (sSkip))
    (sRet (xAnd (xBin oIn (xBin oIx (xVar 0) (xC (.int 0))) (xTup (aCons (xC (.str [43])) (aCons (xBin oIx (xVar 1) (xC (.int 0))) (aNil))))) (xCall c i (aCons (xLst (lSl (xVar 0) (some (xC (.int 1))) none)) (aCons (xLst (lSl (xVar 1) (some (xC (.int 1))) none)) (aNil))))))))
def CovLF (k : Nat) (F : FF) : Prop := ∀ (ws os : List (List Nat)) (st : St), ws.length < k → okC ws → F [.lst (ws.map D.str), .lst (os.map D.str)] st = .ok (.bl (covL ws os)) st
theorem covL_zero (F : FF) : CovLF 0 F := fun _ _ _ h => absurd h (Nat.not_lt_zero _)
theorem g_covL {c : Calls} {i k : Nat} (h : CovLF k (c i)) : CovLF (k + 1) (body 2 2 (gCovL c i)) := by
  intro ws os st hk hw
  rw [ap_body (by rfl)]
  unfold gCovL
  have e := eq_hash hw st
  cases ws with
  | nil =>
    simp only [List.map_nil, List.take_nil, List.head?_nil] at e
    simp [e, covL]
  | cons w ws =>
    simp only [List.map_cons, List.head?_cons] at e
    by_cases h35 : w = [35]
    · subst h35; simp at e; simp [e, covL]
    · have e' : (some w == some [35]) = false := by simpa using h35
      rw [e'] at e
      cases os with
      | nil =>
        simp only [List.take_succ_cons, List.take_zero] at e
        simp [e, covL, h35]
      | cons o os =>
        simp only [List.take_succ_cons, List.take_zero] at e
        have ih := h ws os st (by simpa using hk) hw.tail
        by_cases ho : o = [35]
        · simp [e, covL, h35, ho]
        · simp [e, covL, h35, one_in, ih, ho]
def gPlainL : SM := sRet (xLst (lComp (iVal (xVar 0)) (.name 1) (some (xBin oNe (xVar 1) (xC (.str [35])))) (xIf (xBin oEq (xVar 1) (xC (.str [43]))) (xC (.str [97])) (xVar 1)) [1]))
def PlainLF (F : FF) : Prop := ∀ (ws : List (List Nat)) (st : St), ws.length ≤ 1000 → F [.lst (ws.map D.str)] st = .ok (.lst ((plainL ws).map D.str)) st
theorem g_plainL : PlainLF (body 1 2 gPlainL) := by
  intro ws st hl
  rw [ap_body (by rfl)]
  unfold gPlainL
  simp
  rw [cData_filter (f := D.str) (g := fun p => D.str (plain1 p)) (p := fun p => !(p == [35])) (h := ?h) (hl := by simp; omega)]
  case h =>
    intro p hp
    refine ⟨_, put_name _ _ _ _, ⟨.bl (!(p == [35])), by simp, rfl⟩, fun _ => ?_⟩
    simp [plain1]
  simp [plainL]
def oD : Option (List (List Nat)) → D
  | none => .non
  | some r => .lst (r.map D.str)
theorem bothL_len : ∀ (ws os r : List (List Nat)), bothL ws os = some r → r.length ≤ max ws.length os.length
  | [], os, r, h => by
    unfold bothL at h
    split at h
    · cases h; simp
    · split at h
      · cases h; simp
      · cases h
  | w :: ws, os, r, h => by
    unfold bothL at h
    split at h
    · cases h; have := plainL_len os; omega
    · cases os with
      | nil => cases h
      | cons o os =>
        simp only at h
        split at h
        · cases h; have := plainL_len (w :: ws); omega
        · split at h
          · obtain ⟨q, hq, rfl⟩ := Option.map_eq_some_iff.mp h
            have := bothL_len ws os q hq
            simp only [List.length_cons]; omega
          · cases h
def gBothL (c : Calls) (ip i : Nat) : SM := sSeq (sIf (xBin oEq (xLst (lSl (xVar 0) none (some (xC (.int 1))))) (xLst (lLst (aCons (xC (.str [35])) (aNil))))) (sRet (xCall c ip (aCons (xVar 1) (aNil)))) (sSkip))
    (sSeq (sIf (xBin oEq (xLst (lSl (xVar 1) none (some (xC (.int 1))))) (xLst (lLst (aCons (xC (.str [35])) (aNil))))) (sRet (xCall c ip (aCons (xVar 0) (aNil)))) (sSkip))
    (sSeq (sIf (xOr (xNot (xVar 0)) (xNot (xVar 1))) (sRet (xIf (xOr (xVar 0) (xVar 1)) (xC .non) (xLst (lLst (aNil))))) (sSkip))
    (sSeq (sIf (xAnd (xBin oNe (xBin oIx (xVar 0) (xC (.int 0))) (xBin oIx (xVar 1) (xC (.int 0)))) (xBin oNotIn (xC (.str [43])) (xTup (aCons (xBin oIx (xVar 0) (xC (.int 0))) (aCons (xBin oIx (xVar 1) (xC (.int 0))) (aNil)))))) (sRet (xC .non)) (sSkip))
    (sSeq (sSet 2 (xIf (xBin oEq (xBin oIx (xVar 0) (xC (.int 0))) (xC (.str [43]))) (xBin oIx (xVar 1) (xC (.int 0))) (xBin oIx (xVar 0) (xC (.int 0)))))
    (sSeq (sSet 3 (xCall c i (aCons (xLst (lSl (xVar 0) (some (xC (.int 1))) none)) (aCons (xLst (lSl (xVar 1) (some (xC (.int 1))) none)) (aNil)))))
    (sRet (xIf (xBin oIs (xVar 3) (xC .non)) (xC .non) (xLst (lCat (xCall c ip (aCons (xLst (lLst (aCons (xVar 2) (aNil)))) (aNil))) (xVar 3))))))))))
def BothLF (k : Nat) (F : FF) : Prop := ∀ (ws os : List (List Nat)) (st : St), ws.length < k → ws.length ≤ 500 → os.length ≤ 500 → okC ws → okC os → F [.lst (ws.map D.str), .lst (os.map D.str)] st = .ok (oD (bothL ws os)) st
theorem bothL_zero (F : FF) : BothLF 0 F := fun _ _ _ h => absurd h (Nat.not_lt_zero _)
theorem plus_notIn (w o : List Nat) (st : St) : oNotIn (.str [43]) (.tup [.str w, .str o]) st = some (.bl (!(w == [43] || o == [43]))) := by
  rw [oNotIn_tup (by rfl) (by rfl)]; simp [D.eqv]
theorem g_bothL {c : Calls} {ip i k : Nat} (hp : PlainLF (c ip)) (h : BothLF k (c i)) : BothLF (k + 1) (body 2 4 (gBothL c ip i)) := by
  intro ws os st hk hlw hlo hw ho
  rw [ap_body (by rfl)]
  unfold gBothL
  have e := eq_hash hw st
  have e2 := eq_hash ho st
  have p1 := hp ws st (by omega)
  have p2 := hp os st (by omega)
  cases ws with
  | nil =>
    simp only [List.map_nil, List.take_nil, List.head?_nil] at e p1
    cases os with
    | nil =>
      simp only [List.map_nil, List.take_nil, List.head?_nil] at e2
      simp [e, bothL, oD]
    | cons o os =>
      simp only [List.map_cons, List.head?_cons, List.take_succ_cons, List.take_zero] at e2
      by_cases h35 : o = [35]
      · subst h35; simp at e2; simp [e, e2, bothL, oD, p1, plainL]
      · have e' : (some o == some [35]) = false := by simpa using h35
        rw [e'] at e2
        simp [e, e2, bothL, oD, h35]
  | cons w ws =>
    simp only [List.map_cons, List.head?_cons, List.take_succ_cons, List.take_zero] at e p1
    by_cases h35 : w = [35]
    · subst h35; simp at e; simp [e, bothL, oD, p2]
    · have e' : (some w == some [35]) = false := by simpa using h35
      rw [e'] at e
      cases os with
      | nil =>
        simp only [List.map_nil, List.take_nil, List.head?_nil] at e2
        simp [e, e2, bothL, oD, h35]
      | cons o os =>
        simp only [List.map_cons, List.head?_cons, List.take_succ_cons, List.take_zero] at e2
        by_cases ho35 : o = [35]
        · subst ho35; simp at e2; simp [e, e2, bothL, oD, p1, h35]
        · have e' : (some o == some [35]) = false := by simpa using ho35
          rw [e'] at e2
          by_cases hm : w = o ∨ w = [43] ∨ o = [43]
          · have hc : (!(w == o) && !(w == [43] || o == [43])) = false := by
              rcases hm with rfl | rfl | rfl <;> simp
            have ih := h ws os st (by simpa using hk) (by simp at hlw; omega) (by simp at hlo; omega) hw.tail ho.tail
            have hlv : (if w = [43] then o else w) ≠ [35] := by split <;> assumption
            have p3 := hp [if w = [43] then o else w] st (by simp)
            rw [plainL_cons hlv] at p3
            simp only [List.map_cons, List.map_nil, plainL, List.filter_nil] at p3
            cases hb : bothL ws os with
            | none =>
              rw [hb] at ih
              simp [e, e2, bothL, oD, h35, ho35, plus_notIn, hc, ih, hm, hb]
            | some r =>
              rw [hb] at ih
              have hl := bothL_len ws os r hb
              have hl' : (1 : Nat) + r.length ≤ 16777216 := by simp at hlw hlo; omega
              have ct := cat3_ok (a := [D.str (plain1 (if w = [43] then o else w))]) (b := r.map D.str) (st := st) (by simpa using hl')
              simp [e, e2, bothL, oD, h35, ho35, plus_notIn, hc, ih, hm, hb]
              simp [p3, ct]
              exact fun a b => (hm.resolve_left a).resolve_left b
          · have hc : (!(w == o) && !(w == [43] || o == [43])) = true := by
              simp only [not_or] at hm
              simp [hm.1, hm.2.1, hm.2.2]
            simp [e, e2, bothL, oD, h35, ho35, plus_notIn, hc, hm]
            intro h'
            rw [not_or, not_or] at hm
            exact absurd (h' hm.1 hm.2.1) hm.2.2
def gCovers (c : Calls) (iw iwd icl : Nat) : SM := sSeq (sExpr (xCall c iw (aCons (xVar 0) (aNil))))
    (sSeq (sExpr (xCall c iw (aCons (xVar 1) (aNil))))
    (sSeq (sSet 2 (xLst (lSplit (xVar 0) (xC (.str [47])))))
    (sSeq (sSet 3 (xLst (lSplit (xVar 1) (xC (.str [47])))))
    (sSeq (sIf (xBin oIn (xVar 3) (xTup (aCons (xLst (lLst (aCons (xC (.str [35])) (aNil)))) (aCons (xLst (lLst (aCons (xC (.str [])) (aCons (xC (.str [35])) (aNil))))) (aNil))))) (sSet 3 (xLst (lCat (xLst (lSl (xVar 3) none (some (xNeg (xC (.int 1)))))) (xLst (lLst (aCons (xC (.str [43])) (aCons (xC (.str [35])) (aNil)))))))) (sSkip))
    (sRet (xAnd (xNot (xAnd (xCall c iwd (aCons (xBin oIx (xVar 2) (xC (.int 0))) (aNil))) (xBm isStr oStarts (xVar 1) (xC (.str [36]))))) (xCall c icl (aCons (xVar 2) (aCons (xVar 3) (aNil))))))))))
/-- does a wish cover another -/
def covB (w o : List Nat) : Bool := covV (splitL 47 w) (splitL 47 o)
def CoversF (F : FF) : Prop := ∀ (w o : List Nat) (st : St), w.length ≤ 16777000 → o.length ≤ 16777000 → F [.str w, .str o] st = if isWs w = true then (if isWs o = true then .ok (.bl (covB w o)) st else .exn 1 st) else .exn 1 st
theorem okC_ws {w : List Nat} (h : isWs w = true) : okC (splitL 47 w) := fun p hp c hc => by have := isWs_lt h p hp c hc; omega
theorem strs_pu {a : List (List Nat)} (ha : okC a) : (D.lst (a.map D.str)).pu 20 = true := by
  simp only [D.pu, List.all_eq_true, List.mem_map, forall_exists_index, and_imp, decide_eq_true_eq]
  rintro _ p hp rfl
  simp only [D.pu, List.all_eq_true, decide_eq_true_eq]
  exact ha p hp
theorem fix_in {os : List (List Nat)} (h : okC os) (st : St) : oIn (.lst (os.map D.str)) (.tup [.lst [.str [35]], .lst [.str [], .str [35]]]) st = some (.bl (decide (os = [[35]] ∨ os = [[], [35]]))) := by
  show (inT _ _).map D.bl = _
  unfold inT
  rw [if_neg (by simp [D.flat]), if_pos (by rw [strs_pu h]; rfl)]
  have e : ∀ a : List (List Nat), D.eqv (.lst (a.map D.str)) (.lst (os.map D.str)) = (a == os) := fun a => eqvL_strs a os
  have e1 := e [[35]]
  have e2 := e [[], [35]]
  simp only [List.map_cons, List.map_nil] at e1 e2
  simp only [List.any_cons, List.any_nil, e1, e2, Option.map_some, Bool.or_false]
  congr 2
  rw [Bool.eq_iff_iff]
  simp only [Bool.or_eq_true, beq_iff_eq, decide_eq_true_eq]
  constructor <;> rintro (h | h) <;> simp [h]
theorem g_covers {c : Calls} {iw iwd icl k : Nat} (hw : LookWishF (c iw)) (hd : IsWideF (c iwd)) (hf : CovLF k (c icl)) (hk : 8 < k) : CoversF (body 2 4 (gCovers c iw iwd icl)) := by
  intro w o st hlw hlo
  rw [ap_body (by rfl)]
  unfold gCovers
  have hw1 := hw w st hlw
  have hw2 := hw o st hlo
  by_cases g1 : isWs w = true
  · rw [if_pos g1] at hw1 ⊢
    by_cases g2 : isWs o = true
    · rw [if_pos g2] at hw2 ⊢
      have sw := spl2_ok (s := w) (c := 47) (st := st) (by omega) (by decide)
      have so := spl2_ok (s := o) (c := 47) (st := st) (by omega) (by decide)
      have cw := okC_ws g1
      have co := okC_ws g2
      have l8 := isWs_len g1
      have l8o := isWs_len g2
      have fi := fix_in co st
      have ds : d0 (splitL 47 o) = [36].isPrefixOf o := head_sign o
      unfold covB covV
      rw [ds]
      obtain ⟨a, ar, hws⟩ := List.exists_cons_of_ne_nil (splitL_ne 47 w)
      rw [hws] at sw cw l8 ⊢
      generalize splitL 47 o = os at *
      have cl := fun os => hf (a :: ar) os st (by omega) cw
      simp only [List.map_cons] at sw cl
      unfold fixL
      by_cases e : os = [[35]] ∨ os = [[], [35]]
      · rw [if_pos e]
        rw [decide_eq_true e] at fi
        have ct := cat3_ok (a := (os.map D.str).dropLast) (b := [D.str [43], D.str [35]]) (st := st) (by simp; omega)
        have cl' := cl (os.dropLast ++ [[43], [35]])
        rw [List.map_append, List.map_dropLast] at cl'
        simp only [List.map_cons, List.map_nil] at cl'
        simp [hw1, hw2, sw, so, fi, hd a st, ct, cl', w0]
      · rw [if_neg e]
        rw [decide_eq_false e] at fi
        simp [hw1, hw2, sw, so, fi, hd a st, cl, w0]
    · rw [if_neg g2] at hw2 ⊢
      simp [hw1, hw2]
  · rw [if_neg g1] at hw1 ⊢
    simp [hw1]
def gMeeting (c : Calls) (iw iwd ibl ifi : Nat) : SM := sSeq (sExpr (xCall c iw (aCons (xVar 0) (aNil))))
    (sSeq (sExpr (xCall c iw (aCons (xVar 1) (aNil))))
    (sSeq (sSet 2 (xLst (lSplit (xVar 0) (xC (.str [47])))))
    (sSeq (sSet 3 (xLst (lSplit (xVar 1) (xC (.str [47])))))
    (sSeq (sIf (xOr (xAnd (xCall c iwd (aCons (xBin oIx (xVar 2) (xC (.int 0))) (aNil))) (xBm isStr oStarts (xVar 1) (xC (.str [36])))) (xAnd (xCall c iwd (aCons (xBin oIx (xVar 3) (xC (.int 0))) (aNil))) (xBm isStr oStarts (xVar 0) (xC (.str [36]))))) (sRet (xC .non)) (sSkip))
    (sSeq (sSet 4 (xCall c ibl (aCons (xVar 2) (aCons (xVar 3) (aNil)))))
    (sSeq (sIf (xBin oEq (xVar 4) (xLst (lLst (aNil)))) (sRet (xC (.str [97]))) (sSkip))
    (sSeq (sIf (xBin oEq (xVar 4) (xLst (lLst (aCons (xC (.str [])) (aNil))))) (sRet (xIf (xAnd (xCall c ifi (aCons (xVar 0) (aCons (xC (.str [47, 97])) (aNil)))) (xCall c ifi (aCons (xVar 1) (aCons (xC (.str [47, 97])) (aNil))))) (xC (.str [47, 97])) (xC .non))) (sSkip))
    (sRet (xIf (xBin oIs (xVar 4) (xC .non)) (xC .non) (xBm isStr oJoin (xC (.str [47])) (xVar 4)))))))))))
def oS : Option (List (List Nat)) → D
  | none => .non
  | some r => .str (joinS [47] r)
def meetB (w o : List Nat) : Option (List (List Nat)) := meetV (splitL 47 w) (splitL 47 o)
def MeetingF (F : FF) : Prop := ∀ (w o : List Nat) (st : St), w.length ≤ 10000 → o.length ≤ 10000 → F [.str w, .str o] st = if isWs w = true then (if isWs o = true then .ok (oS (meetB w o)) st else .exn 1 st) else .exn 1 st
theorem isLv_okC {r : List (List Nat)} (h : ∀ p ∈ r, isLv p = true) : okC r := fun p hp c hc => by have := isLv_lt (h p hp) c hc; omega
theorem g_meeting {c : Calls} {iw iwd ibl ifi k : Nat} (hw : LookWishF (c iw)) (hd : IsWideF (c iwd)) (hb : BothLF k (c ibl)) (hf : FitsF (c ifi)) (hk : 8 < k) : MeetingF (body 2 5 (gMeeting c iw iwd ibl ifi)) := by
  intro w o st hlw hlo
  rw [ap_body (by rfl)]
  unfold gMeeting
  have hw1 := hw w st (by omega)
  have hw2 := hw o st (by omega)
  by_cases g1 : isWs w = true
  · rw [if_pos g1] at hw1 ⊢
    by_cases g2 : isWs o = true
    · rw [if_pos g2] at hw2 ⊢
      have sw := spl2_ok (s := w) (c := 47) (st := st) (by omega) (by decide)
      have so := spl2_ok (s := o) (c := 47) (st := st) (by omega) (by decide)
      have cw := okC_ws g1
      have co := okC_ws g2
      have gw := gw_of g1
      have go := gw_of g2
      have l8 := isWs_len g1
      have l8o := isWs_len g2
      have d1 : d0 (splitL 47 o) = [36].isPrefixOf o := head_sign o
      have d2 : d0 (splitL 47 w) = [36].isPrefixOf w := head_sign w
      have f1 := hf w [47, 97] st (by omega) (by simp)
      have f2 := hf o [47, 97] st (by omega) (by simp)
      rw [if_pos g1, if_pos (by decide), fitB_V, show splitL 47 [47, 97] = [[], [97]] from by decide] at f1
      rw [if_pos g2, if_pos (by decide), fitB_V, show splitL 47 [47, 97] = [[], [97]] from by decide] at f2
      unfold meetB meetV
      rw [d1, d2]
      obtain ⟨a, ar, hws⟩ := List.exists_cons_of_ne_nil (splitL_ne 47 w)
      obtain ⟨b, br, hos⟩ := List.exists_cons_of_ne_nil (splitL_ne 47 o)
      rw [hws] at sw cw l8 f1 gw ⊢
      rw [hos] at so co l8o f2 go ⊢
      have bl := hb (a :: ar) (b :: br) st (by omega) (by omega) (by omega) cw co
      simp only [List.map_cons] at sw so bl
      by_cases hc : ((isWideB a && [36].isPrefixOf o) || (isWideB b && [36].isPrefixOf w)) = true
      · simp only [w0, List.head?_cons, Option.any_some, hc, if_true]
        simp [hw1, hw2, sw, so, hd a st, hd b st, oS]
        have hp : (isWideB a = true ∧ [36] <+: o) ∨ (isWideB b = true ∧ [36] <+: w) := by simpa using hc
        intro x y
        rcases hp with ⟨h1, h2⟩ | ⟨h1, h2⟩
        · exact absurd h2 (x h1)
        · exact absurd h2 (y h1)
      · rw [Bool.not_eq_true] at hc
        have hc' := hc
        simp only [w0, List.head?_cons, Option.any_some, hc, Bool.false_eq_true, if_false]
        cases hbo : bothL (a :: ar) (b :: br) with
        | none =>
          rw [hbo] at bl
          have e1 : oEq (oD none) (.lst []) st = some (.bl false) := rfl
          have e2 : oEq (oD none) (.lst [.str []]) st = some (.bl false) := rfl
          have e3 : oIs (oD none) .non st = some (.bl true) := rfl
          simp [hw1, hw2, sw, so, hd a st, hd b st, bl, e1, e2, e3, oS]
        | some r =>
          rw [hbo] at bl
          simp [hw1, hw2, sw, so, hd a st, hd b st, bl, oS]
          have hp : ¬ ((isWideB a = true ∧ [36] <+: o) ∨ (isWideB b = true ∧ [36] <+: w)) := by
            intro h
            rcases h with ⟨h1, h2⟩ | ⟨h1, h2⟩ <;> simp [h1, List.isPrefixOf_iff_prefix.mpr h2] at hc
          rw [if_neg hp]
          obtain ⟨_, _, rl, _⟩ := both_fit _ _ _ gw go hbo
          have rc := isLv_okC rl
          have rlen := bothL_len _ _ _ hbo
          have e1 := oEq_strs (a := r) (b := []) (st := st) rc (by simp)
          have e2 := oEq_strs (a := r) (b := [[]]) (st := st) rc (by simp)
          simp only [List.map_nil, List.map_cons] at e1 e2
          have jn : oJoin (.str [47]) (.lst (r.map D.str)) st = some (.str (joinS [47] r)) := oJoin_le 8 12 rfl (by omega) (fun p hp => by
            have := rl p hp
            unfold isLv at this
            simp only [Bool.and_eq_true, decide_eq_true_eq] at this
            exact this.1) (by decide)
          by_cases r0 : r = []
          · subst r0
            simp at e1
            simp [oD, e1, joinS]
          · have r0' : (r == []) = false := by simpa using r0
            rw [r0'] at e1
            by_cases r1 : r = [[]]
            · subst r1
              simp at e2 e1
              simp [oD, e1, e2, f1, f2]
              split <;> rfl
            · have r1' : (r == [[]]) = false := by simpa using r1
              rw [r1'] at e2
              simp [oD, e1, e2, r0, r1, jn]
    · rw [if_neg g2] at hw2 ⊢
      simp [hw1, hw2]
  · rw [if_neg g1] at hw1 ⊢
    simp [hw1]
end TH.Q
end
section
set_option linter.all false
set_option autoImplicit false
/-! TH14: covering and meeting, said of texts. Plain Lean. -/
namespace TH.Q
open TH
theorem nm_ne {n : List Nat} (h : isNm n = true) : splitL 47 n ≠ [] ∧ splitL 47 n ≠ [[]] := by
  refine ⟨splitL_ne 47 n, fun e => ?_⟩
  unfold isNm at h
  rw [Bool.and_eq_true] at h
  have h1 := h.1
  cases n with
  | nil => cases h1
  | cons a r =>
    by_cases ha : a = 47
    · subst ha; rw [splitL_same] at e
      have := splitL_ne 47 r
      cases hs : splitL 47 r with
      | nil => exact this hs
      | cons p ps => rw [hs] at e; cases e
    · obtain ⟨p, ps, _, h2⟩ := splitL_cons 47 a r ha
      rw [h2] at e; cases e
theorem ws_ne {n : List Nat} (h : isWs n = true) : splitL 47 n ≠ [] ∧ splitL 47 n ≠ [[]] := by
  refine ⟨splitL_ne 47 n, fun e => ?_⟩
  unfold isWs at h
  rw [Bool.and_eq_true] at h
  have h1 := h.1
  cases n with
  | nil => cases h1
  | cons a r =>
    by_cases ha : a = 47
    · subst ha; rw [splitL_same] at e
      have := splitL_ne 47 r
      cases hs : splitL 47 r with
      | nil => exact this hs
      | cons p ps => rw [hs] at e; cases e
    · obtain ⟨p, ps, _, h2⟩ := splitL_cons 47 a r ha
      rw [h2] at e; cases e
theorem join_ne {r : List (List Nat)} (h : r ≠ []) (h' : r ≠ [[]]) : joinS [47] r ≠ [] := by
  cases r with
  | nil => exact absurd rfl h
  | cons p ps =>
    cases ps with
    | nil => intro e; exact h' (by rw [show p = [] from e])
    | cons q qs => rw [joinS_cons]; simp
/-- levels joined make a name -/
theorem join_nm {r : List (List Nat)} (h : r ≠ []) (h' : r ≠ [[]]) (hl : ∀ p ∈ r, isLv p = true) (h47 : ∀ p ∈ r, 47 ∉ p) (h8 : r.length ≤ 8) : isNm (joinS [47] r) = true := by
  unfold isNm
  rw [split_join 47 r h h47]
  have := join_ne h h'
  have e : (joinS [47] r).isEmpty = false := by
    cases hj : joinS [47] r with
    | nil => exact absurd hj this
    | cons a b => rfl
  rw [e]
  simp only [Bool.not_false, Bool.true_and, Bool.and_eq_true, decide_eq_true_eq, List.all_eq_true]
  exact ⟨h8, hl⟩
theorem plainL_mem {p : List Nat} {os : List (List Nat)} (h : p ∈ plainL os) : p = [97] ∨ p ∈ os := by
  unfold plainL at h
  obtain ⟨q, hq, rfl⟩ := List.mem_map.mp h
  unfold plain1
  split
  · exact .inl rfl
  · exact .inr (List.mem_filter.mp hq).1
theorem plain1_mem (p : List Nat) : plain1 p = [97] ∨ plain1 p = p := by
  unfold plain1
  split
  · exact .inl rfl
  · exact .inr rfl
theorem both_mem : ∀ (ws os r : List (List Nat)), bothL ws os = some r → ∀ p ∈ r, p = [97] ∨ p ∈ ws ∨ p ∈ os
  | [], os, r, h => by
    unfold bothL at h
    split at h
    · cases h; simp
    · split at h
      · cases h; simp
      · cases h
  | w :: ws, os, r, h => by
    unfold bothL at h
    split at h
    · cases h
      intro p hp
      rcases plainL_mem hp with e | e
      · exact .inl e
      · exact .inr (.inr e)
    · cases os with
      | nil => cases h
      | cons o os =>
        simp only at h
        split at h
        · cases h
          intro p hp
          rcases plainL_mem hp with e | e
          · exact .inl e
          · exact .inr (.inl e)
        · split at h
          · obtain ⟨q, hq, rfl⟩ := Option.map_eq_some_iff.mp h
            intro p hp
            rcases List.mem_cons.mp hp with rfl | hp
            · rcases plain1_mem (if w = [43] then o else w) with e | e
              · exact .inl e
              · rw [e]; split
                · exact .inr (.inr List.mem_cons_self)
                · exact .inr (.inl List.mem_cons_self)
            · rcases both_mem ws os q hq p hp with e | e | e
              · exact .inl e
              · exact .inr (.inl (List.mem_cons_of_mem _ e))
              · exact .inr (.inr (List.mem_cons_of_mem _ e))
          · cases h
theorem meet_47 {ws os r : List (List Nat)} (h1 : ∀ p ∈ ws, 47 ∉ p) (h2 : ∀ p ∈ os, 47 ∉ p) (h : meetV ws os = some r) : ∀ p ∈ r, 47 ∉ p := by
  unfold meetV at h
  split at h
  · cases h
  · cases hb : bothL ws os with
    | none => rw [hb] at h; cases h
    | some q =>
      rw [hb] at h
      simp only at h
      split at h
      · cases h; decide
      · split at h
        · split at h
          · cases h; decide
          · cases h
        · cases h
          intro p hp
          rcases both_mem _ _ _ hb p hp with rfl | e | e
          · decide
          · exact h1 p e
          · exact h2 p e
/-- what meeting tells is a name that both fit -/
theorem meetB_name {w o : List Nat} {r : List (List Nat)} (gw : isWs w = true) (go : isWs o = true) (h : meetB w o = some r) :
    isNm (joinS [47] r) = true ∧ fitB w (joinS [47] r) = true ∧ fitB o (joinS [47] r) = true ∧ (joinS [47] r).length ≤ 200 := by
  unfold meetB at h
  obtain ⟨a, b, hl, h8, n0, n1⟩ := meet_sound (gw_of gw) (gw_of go) (ws_ne gw).1 (ws_ne go).1 h
  have h47 := meet_47 (splitL_not 47 w) (splitL_not 47 o) h
  have lw := isWs_len gw
  have lo := isWs_len go
  refine ⟨join_nm n0 n1 hl h47 (by omega), ?_, ?_, ?_⟩
  · rw [fitB_V, split_join 47 r n0 h47]; exact a
  · rw [fitB_V, split_join 47 r n0 h47]; exact b
  · have := joinS_len [47] r 12 fun p hp => by
      have := hl p hp
      unfold isLv at this
      simp only [Bool.and_eq_true, decide_eq_true_eq] at this
      exact this.1
    have e : r.length * (12 + 1) ≤ 8 * 13 := Nat.mul_le_mul_right _ (by omega)
    simp only [List.length_cons, List.length_nil] at this
    omega
theorem covB_sound {w o n : List Nat} (gn : isNm n = true) (h : covB w o = true) (f : fitB o n = true) : fitB w n = true := by
  rw [fitB_V] at *
  exact cov_sound (nm_ne gn).1 (nm_ne gn).2 h f
theorem covB_self {w : List Nat} (g : isWs w = true) : covB w w = true := cov_self (gw_of g)
theorem covB_trans {w o t : List Nat} (gw : isWs w = true) (gt : isWs t = true) (a : covB w o = true) (b : covB o t = true) : covB w t = true :=
  cov_trans (gw_of gw) (gw_of gt) (isWs_len gw) (ws_ne gt).1 (ws_ne gt).2 a b
theorem covB_meet {w o : List Nat} (gw : isWs w = true) (go : isWs o = true) (h : covB w o = true) : (∃ r, meetB w o = some r) ∧ ∃ r, meetB o w = some r :=
  cov_meet (gw_of gw) (gw_of go) (ws_ne go).1 (ws_ne go).2 h
theorem meetB_symm {w o : List Nat} {r : List (List Nat)} (gw : isWs w = true) (go : isWs o = true) (h : meetB w o = some r) : ∃ r, meetB o w = some r :=
  meet_symm (gw_of gw) (gw_of go) (ws_ne gw).1 (ws_ne go).1 h
theorem meetB_some {w o n : List Nat} (gw : isWs w = true) (go : isWs o = true) (gn : isNm n = true) (f1 : fitB w n = true) (f2 : fitB o n = true) : ∃ r, meetB w o = some r := by
  rw [fitB_V] at *
  exact meet_some (gw_of gw) (gw_of go) (nm_ne gn).1 (nm_ne gn).2 f1 f2
end TH.Q
end
section
set_option linter.all false
set_option autoImplicit false
/-! R_k31: the known small functions (printed by gen.py). -/
namespace TH.k31
open TH TH.Q
theorem r__law_cell (ns : List Int) (k : Nat) : CellF (run (k + 1) 2) ns := g_cell ns
theorem r__law_mix (ns : List Int) (k : Nat) : MixF (run (k + 2) 3) ns := g_mix (r__law_cell ns (k + 0))
theorem r__law_draw (ns : List Int) (k : Nat) : DrawF (run (k + 3) 4) ns := g_draw (r__law_mix ns (k + 0))
theorem r__law_pick (ns : List Int) (k : Nat) : PickF (run (k + 4) 5) ns := g_pick (r__law_draw ns (k + 0))
end TH.k31
end
section
set_option linter.all false
set_option autoImplicit false
/-! M_k31: the plain law. -/
namespace TH.k31
open TH TH.Q
/-- packets of the line -/
inductive Pk where
  | free (n : Int)
  | say (name body : List Nat) (g : Nat) (kept again : Bool) (n : Int)
def sFree : List Nat := [102, 114, 101, 101]
def sSay : List Nat := [115, 97, 121]
def Pk.d : Pk → D
  | .free n => .tup [.str sFree, .int n]
  | .say a b g k r n => .tup [.str sSay, .str a, .str b, .int g, .bl k, .bl r, .int n]
def Pk.good : Pk → Prop
  | .free _ => True
  | .say a b g _ _ _ => g ≤ 2 ∧ (∀ c ∈ a, c < 55296) ∧ ∀ c ∈ b, c < 55296
def tid (a b : List Nat) (g : Nat) (k : Bool) : D := .tup [.str a, .str b, .int g, .bl k]
/-- what is answered -/
def Pk.val (ids : List Int) : Pk → D
  | .free n => .tup [.lst [.tup [.str [100, 111, 110, 101], .int n]], .lst []]
  | .say a b g k _ n => if g = 0 then .tup [.lst [], .lst [tid a b g k]] else if g = 1 then .tup [.lst [.tup [.str [103, 111, 116], .int n]], .lst [tid a b g k]] else
    if ids.contains n then .tup [.lst [.tup [.str [104, 101, 108, 100], .int n]], .lst []] else .tup [.lst [.tup [.str [104, 101, 108, 100], .int n]], .lst [tid a b g k]]
/-- the ids behind -/
def Pk.ids (ids : List Int) : Pk → List Int
  | .free n => ids.filter fun i => !(i == n)
  | .say _ _ g _ _ n => if g = 2 ∧ ids.contains n = false then ids ++ [n] else ids
theorem int_in (n : Int) (ids : List Int) (st : St) : oIn (.int n) (.lst (ids.map D.int)) st = some (.bl (ids.contains n)) := by
  rw [oIn_lst rfl (by simp [D.flat])]
  congr 2
  rw [List.any_map]
  show ids.any (fun y => y == n) = _
  rw [Bool.eq_iff_iff]; simp
theorem in_ref {x : D} {n : Nat} {st : St} {l : List D} (h : asO st[n]? = some l) : oIn x (.ref n) st = oIn x (.lst l) st := by
  have : asL st (.ref n) = some l := by rw [asL_ref]; exact h
  show (match asL st (.ref n) with | some l => (inL x l).map D.bl | none => none) = _
  rw [this]; rfl
theorem lt_of_get {α : Type} {l : List α} {j : Nat} {a : α} (h : l[j]? = some a) : j < l.length := by
  rcases Nat.lt_or_ge j l.length with h' | h'
  · exact h'
  · rw [List.getElem?_eq_none h'] at h; cases h
/-- the taker's own -/
theorem took_ok (k : Nat) (pk : Pk) (hg : pk.good) (ids : List Int) (p a : Nat) (st : St) (hp : st[p]? = some (.ins 0 [(0, .ref a)])) (ha : st[a]? = some (.ml (ids.map D.int))) (hl : ids.length ≤ 1000) :
    ∃ st' a', run (k + 1) 1 [.ref p, pk.d] st = .ok (pk.val ids) st' ∧ st'[p]? = some (.ins 0 [(0, .ref a')]) ∧ st'[a']? = some (.ml ((pk.ids ids).map D.int)) ∧ (a' = a ∨ st.length ≤ a') ∧ (∀ j, j ≠ p → j ≠ a → j < st.length → st'[j]? = st[j]?) ∧ st.length ≤ st'.length := by
  have hpl := lt_of_get hp
  have hal := lt_of_get ha
  have hpa : p ≠ a := by rintro rfl; rw [hp] at ha; cases ha
  have hf : ∀ st : St, st[p]? = some (.ins 0 [(0, .ref a)]) → ∀ env, xFld 1 ok_numbers 0 (xVar 0) (some (.ref p) :: env) st = .ok (.ref a) st := by
    intro st h env
    simp [h, ok_numbers, fok, fget]
  have hrun : ∀ d, run (k + 1) 1 [.ref p, d] st = fin (L_Taker_took (run k) [some (.ref p), some d, none, none] st) := fun d => rfl
  rw [hrun]
  unfold L_Taker_took
  cases pk with
  | free n =>
    unfold L_Taker_took_1 L_Taker_took_1t L_Taker_took_1t_1 L_Taker_took_1t_2
    refine ⟨(st ++ [Ob.ml ((ids.filter fun i => !(i == n)).map D.int)]).set p (.ins 0 [(0, .ref st.length)]), st.length, ?_, ?_, ?_, .inr (Nat.le_refl _), ?_, by simp⟩
    · have hp' : ∀ xs : List D, (st ++ [Ob.ml xs])[p]? = some (.ins 0 [(0, .ref a)]) := fun xs => by rw [List.getElem?_append_left hpl]; exact hp
      have hc : cObj (.name 3) (some (xBin oNe (xVar 3) (xBin oIx (xVar 1) (xC (.int 1))))) (xVar 3) [some (.ref p), some (.tup [.str sFree, .int n]), none, none] a FU 0 [] st = .ok ((ids.filter fun i => !(i == n)).map D.int) st := by
        rw [cObj_filter (f := D.int) (g := D.int) (p := fun i => !(i == n)) (l := ids) (hm := ha) (h := ?h) (hl := by omega)]
        case h => exact fun i _ => ⟨_, put_name _ _ _ _, ⟨.bl (!(i == n)), by simp, rfl⟩, fun _ => by simp⟩
      simp only [Pk.d, Pk.val]
      simp [sFree, hp, ha, ok_numbers, fok, fget, fput, hp']
      simp only [sFree] at hc
      rw [hc]
      simp [hp', ok_numbers, fok, fget, fput]
    · rw [List.getElem?_set_self (by simp; omega)]
    · rw [List.getElem?_set_ne (by omega)]; simp [Pk.ids]
    · intro j h1 h2 h3
      rw [List.getElem?_set_ne (Ne.symm h1), List.getElem?_append_left h3]
  | say nm b g kp ag n =>
    unfold L_Taker_took_1 L_Taker_took_2 L_Taker_took_3 L_Taker_took_4 L_Taker_took_5 L_Taker_took_6 L_Taker_took_7
    have hcut' : ∀ a b c d e f g : D, cut [a, b, c, d, e, f, g] (some 1) (some 5) = [b, c, d, e] := fun _ _ _ _ _ _ _ => rfl
    obtain ⟨hg2, -, -⟩ := hg
    rcases (show g = 0 ∨ g = 1 ∨ g = 2 by omega) with rfl | rfl | rfl
    · refine ⟨st, a, ?_, hp, by simpa [Pk.ids] using ha, .inl rfl, fun _ _ _ _ => rfl, Nat.le_refl _⟩
      simp [Pk.d, Pk.val, sSay, hcut', tid]
    · refine ⟨st, a, ?_, hp, by simpa [Pk.ids] using ha, .inl rfl, fun _ _ _ _ => rfl, Nat.le_refl _⟩
      simp [Pk.d, Pk.val, sSay, hcut', tid]
    · have hin : oIn (.int n) (.ref a) st = some (.bl (ids.contains n)) := (in_ref (by rw [ha]; rfl)).trans (int_in n ids st)
      cases hc : ids.contains n with
      | true =>
        rw [hc] at hin
        have hc : n ∈ ids := by simpa using hc
        refine ⟨st, a, ?_, hp, by simpa [Pk.ids, hc] using ha, .inl rfl, fun _ _ _ _ => rfl, Nat.le_refl _⟩
        simp [Pk.d, Pk.val, sSay, hcut', tid, hp, ok_numbers, fok, fget, hin, hc]
      | false =>
        rw [hc] at hin
        have h1 := app1_ok (g := xBin oIx (xVar 1) (xC (.int 6))) (env := [some (.ref p), some (.tup [.str [115, 97, 121], .str nm, .str b, .int 2, .bl kp, .bl ag, .int n]), some (.tup [.str nm, .str b, .int 2, .bl kp]), none]) ha
        have h3 := app3_ok (n := a) (y := .int n) (st := st) (l := ids.map D.int) (by simp; omega)
        refine ⟨st.set a (.ml (ids.map D.int ++ [.int n])), a, ?_, by rw [List.getElem?_set_ne (Ne.symm hpa)]; exact hp, ?_, .inl rfl, fun j _ h _ => by rw [List.getElem?_set_ne (Ne.symm h)], by simp⟩
        · simp only [List.contains_eq_mem, decide_eq_false_iff_not] at hc
          simp [Pk.d, Pk.val, sSay, hcut', tid, hp, ok_numbers, fok, fget, hin, hc]
          rw [h1]
          simp [ha, h3]
        · rw [List.getElem?_set_self hal]
          have hc : ¬ n ∈ ids := by simpa using hc
          simp [Pk.ids, hc]
/-- the law's own -/
theorem due_ok (k : Nat) (pk : Pk) (hg : pk.good) (ids : List Int) (hn : ids.Nodup) (q : Nat) (st : St) (ha : st[q]? = some (.ml (ids.map D.int))) (hl : ids.length ≤ 1000) :
    ∃ st', run (k + 1) 7 [pk.d, .ref q] st = .ok (pk.val ids) st' ∧ st'[q]? = some (.ml ((pk.ids ids).map D.int)) ∧ (∀ j, j ≠ q → st'[j]? = st[j]?) ∧ st'.length = st.length := by
  have hal := lt_of_get ha
  have hin : ∀ n, oIn (.int n) (.ref q) st = some (.bl (ids.contains n)) := fun n => (in_ref (by rw [ha]; rfl)).trans (int_in n ids st)
  have hrun : ∀ d, run (k + 1) 7 [d, .ref q] st = fin (L__law_due (run k) [some d, some (.ref q), none, none] st) := fun d => rfl
  rw [hrun]
  unfold L__law_due L__law_due_1 L__law_due_2 L__law_due_3 L__law_due_4 L__law_due_5 L__law_due_2t L__law_due_2t_1 L__law_due_2t_2 L__law_due_4t L__law_due_4t_1 L__law_due_4t_2 L__law_due_4t_3
  have mm : ∀ l : List D, oIx (.tup l) (.int (-1)) st = l.getLast? := fun l => ix_m1 l
  cases pk with
  | free n =>
    have hi := hin n
    cases hc : ids.contains n with
    | true =>
      rw [hc] at hi
      have h1 := rem1_ok (g := xVar 2) (env := [some (.tup [.str [102, 114, 101, 101], .int n]), some (.ref q), some (.int n), none]) ha
      have h3 := rem3_ok (n := q) (st := st) hc
      refine ⟨st.set q (.ml ((ids.erase n).map D.int)), ?_, ?_, fun j h => by rw [List.getElem?_set_ne (Ne.symm h)], by simp⟩
      · simp [Pk.d, Pk.val, sFree, mm, hi]
        rw [h1]
        simp [ha, h3]
      · rw [List.getElem?_set_self hal]
        simp only [Pk.ids]
        rw [List.Nodup.erase_eq_filter hn]
        rfl
    | false =>
      rw [hc] at hi
      refine ⟨st, ?_, ?_, fun _ _ => rfl, rfl⟩
      · simp [Pk.d, Pk.val, sFree, mm, hi]
      · rw [ha]
        simp only [Pk.ids]
        rw [List.filter_eq_self.mpr]
        intro i hi'
        rw [Bool.not_eq_true', beq_eq_false_iff_ne]
        rintro rfl
        simp at hc; exact hc hi'
  | say nm b g kp ag n =>
    have hi := hin n
    obtain ⟨hg2, -, -⟩ := hg
    rcases (show g = 0 ∨ g = 1 ∨ g = 2 by omega) with rfl | rfl | rfl
    · refine ⟨st, ?_, by simpa [Pk.ids] using ha, fun _ _ => rfl, rfl⟩
      simp [Pk.d, Pk.val, sSay, mm, tid]
    · refine ⟨st, ?_, by simpa [Pk.ids] using ha, fun _ _ => rfl, rfl⟩
      simp [Pk.d, Pk.val, sSay, mm, tid]
    · cases hc : ids.contains n with
      | true =>
        rw [hc] at hi
        have hc : n ∈ ids := by simpa using hc
        refine ⟨st, ?_, by simpa [Pk.ids, hc] using ha, fun _ _ => rfl, rfl⟩
        simp [Pk.d, Pk.val, sSay, mm, tid, hi, hc]
      | false =>
        rw [hc] at hi
        have h1 := app1_ok (g := xVar 2) (env := [some (.tup [.str [115, 97, 121], .str nm, .str b, .int 2, .bl kp, .bl ag, .int n]), some (.ref q), some (.int n), some (.tup [.str nm, .str b, .int 2, .bl kp])]) ha
        have h3 := app3_ok (n := q) (y := .int n) (st := st) (l := ids.map D.int) (by simp; omega)
        refine ⟨st.set q (.ml (ids.map D.int ++ [.int n])), ?_, ?_, fun j h => by rw [List.getElem?_set_ne (Ne.symm h)], by simp⟩
        · simp only [List.contains_eq_mem, decide_eq_false_iff_not] at hc
          simp [Pk.d, Pk.val, sSay, mm, tid, hi, hc]
          rw [h1]
          simp [ha, h3]
        · rw [List.getElem?_set_self hal]
          have hc : ¬ n ∈ ids := by simpa using hc
          simp [Pk.ids, hc]
end TH.k31
namespace TH.k31
open TH TH.Q
theorem val_pu {pk : Pk} (hg : pk.good) (ids : List Int) : (pk.val ids).pu 20 = true := by
  cases pk with
  | free n => rfl
  | say a b g k r n =>
    obtain ⟨_, ha, hb⟩ := hg
    have sa : a.all (fun c => decide (c < 55296)) = true := by rw [List.all_eq_true]; exact fun c hc => decide_eq_true (ha c hc)
    have sb : b.all (fun c => decide (c < 55296)) = true := by rw [List.all_eq_true]; exact fun c hc => decide_eq_true (hb c hc)
    have ht : ∀ k, (tid a b g k).pu 18 = true := by
      intro k
      show ([D.str a, .str b, .int g, .bl k].all (D.pu 17)) = true
      simp only [List.all_cons, List.all_nil, D.pu, sa, sb, Bool.and_self]
    simp only [Pk.val]
    split
    · simp [D.pu, ht]
    · split
      · simp [D.pu, ht]
      · split <;> simp [D.pu, ht]
theorem val_tup (pk : Pk) (ids : List Int) (st : St) : isiT 4 (pk.val ids) st = some true := by
  cases pk with
  | free n => rfl
  | say a b g k r n =>
    simp only [Pk.val]
    split
    · rfl
    · split
      · rfl
      · split <;> rfl
/-- what is drawn -/
theorem small_ok (ns : List Int) (k t : Nat) (st : St) (i : TW t st) (ht : t < 1000000) :
    ∃ a b g kp st', run (k + 6) 6 [scr ns, .ref 0] st = .ok (.tup [.str a, .str b, .int ((g : Nat) : Int), .bl kp]) st' ∧ g ≤ 2 ∧ (∀ c ∈ a, c < 55296) ∧ (∀ c ∈ b, c < 55296) ∧ TW (t + 4) st' ∧ Fr0 st st' := by
  obtain ⟨d1, s1, h1, e1, i1, f1⟩ := (r__law_pick ns (k + 1)).fr i [.str [], .str [120], .str [121, 32, 122], .str [35], .str [108, 97, 115, 116]] (by omega) (by simp)
  obtain ⟨d2, s2, h2, e2, i2, f2⟩ := (r__law_pick ns (k + 1)).fr i1 [.str [97], .str [97, 47, 98], .str [36, 115], .str [47], .str [98, 47, 47, 99]] (by omega) (by simp)
  obtain ⟨g, s3, hg, e3, i3, f3⟩ := (r__law_draw ns (k + 2)).fr i2 3 (by omega) (by omega)
  obtain ⟨r, s4, hr, e4, i4, f4⟩ := (r__law_draw ns (k + 2)).fr i3 2 (by omega) (by omega)
  obtain ⟨b, rfl, hb⟩ : ∃ b, d1 = .str b ∧ ∀ c ∈ b, c < 55296 := by
    simp only [List.mem_cons, List.not_mem_nil, or_false] at h1
    rcases h1 with rfl | rfl | rfl | rfl | rfl <;> exact ⟨_, rfl, by simp⟩
  obtain ⟨a, rfl, ha⟩ : ∃ b, d2 = .str b ∧ ∀ c ∈ b, c < 55296 := by
    simp only [List.mem_cons, List.not_mem_nil, or_false] at h2
    rcases h2 with rfl | rfl | rfl | rfl | rfl <;> exact ⟨_, rfl, by simp⟩
  refine ⟨a, b, g, (r : Int) == 0, s4, ?_, by omega, ha, hb, i4, ((f1.trans f2).trans f3).trans f4⟩
  show body 2 4 (B__law_small (run (k + 5))) [scr ns, .ref 0] st = _
  rw [ap_body (by rfl)]
  unfold B__law_small
  have e3' : run (k + 5) 4 [scr ns, .ref 0, .int 3] s2 = .ok (.int g) s3 := e3
  have e4' : run (k + 5) 4 [scr ns, .ref 0, .int 2] s3 = .ok (.int r) s4 := e4
  simp only [ap_seq, ap_set, ap_call, ap_cons, ap_var, List.map_cons, List.map_nil, List.length_cons, List.length_nil, List.reduceReplicate, Nat.reduceSub, Nat.zero_add, Nat.reduceAdd, List.cons_append, List.nil_append, List.getElem?_cons_succ, get_zero, get_one, get_two, vr_some, bind_ok, ap_cns1, ap_xlst, ap_llst, ap_C, ap_nil, ap_cns2, lst1_5, ap_val1, e1, bindS_ok, ap_set1, List.set_cons_succ, List.set_cons_zero, seq_nx, e2, ap_ret, ap_tup, e3', ap_bin, e4', ap_bin1, ap_bin2, oEq_int, ofO_some, tup1_4, ap_ret1, fin_ret]
/-- one taker, and the law's list beside it -/
structure One (st : St) (p q a m : Nat) (ids : List Int) : Prop where
  tk : st[p]? = some (.ins 0 [(0, .ref a)])
  ls : st[a]? = some (.ml (ids.map D.int))
  lw : st[q]? = some (.ml (ids.map D.int))
  nd : ids.Nodup
  ln : ids.length ≤ m
theorem ids_nd {pk : Pk} {ids : List Int} (h : ids.Nodup) : (pk.ids ids).Nodup := by
  cases pk with
  | free n => exact h.filter _
  | say a b g k r n =>
    simp only [Pk.ids]
    split
    · rename_i hc
      rw [List.nodup_append]
      refine ⟨h, by simp, fun x hx y hy => ?_⟩
      rw [List.mem_singleton] at hy
      subst hy
      rintro rfl
      have := hc.2
      simp at this; exact this hx
    · exact h
theorem ids_ln (pk : Pk) (ids : List Int) : (pk.ids ids).length ≤ ids.length + 1 := by
  cases pk with
  | free n => have := List.length_filter_le (fun i => !(i == n)) ids; simp only [Pk.ids]; omega
  | say a b g k r n => simp only [Pk.ids]; split <;> simp
/-- both do it -/
theorem both_do (k : Nat) (pk : Pk) (hg : pk.good) {st : St} {p q a m : Nat} {ids : List Int} (o : One st p q a m ids) (hm : m ≤ 900) (haq : a ≠ q) (hpq : p ≠ q) :
    ∃ st1 st2 a', run (k + 1) 1 [.ref p, pk.d] st = .ok (pk.val ids) st1 ∧ run (k + 1) 7 [pk.d, .ref q] st1 = .ok (pk.val ids) st2 ∧ One st2 p q a' (m + 1) (pk.ids ids) ∧ (a' = a ∨ st.length ≤ a') ∧
      (∀ j, j ≠ p → j ≠ a → j ≠ q → j < st.length → st2[j]? = st[j]?) ∧ st.length ≤ st2.length ∧ ∀ j, j ≠ p → j ≠ a → j < st.length → st1[j]? = st[j]? := by
  obtain ⟨st1, a', e1, t1, t2, t3, t4, t5⟩ := took_ok k pk hg ids p a st o.tk o.ls (by have := o.ln; omega)
  have hql := lt_of_get o.lw
  obtain ⟨st2, e2, u1, u2, u3⟩ := due_ok k pk hg ids o.nd q st1 (by rw [t4 q (Ne.symm hpq) (Ne.symm haq) hql]; exact o.lw) (by have := o.ln; omega)
  refine ⟨st1, st2, a', e1, e2, ⟨?_, ?_, u1, ids_nd o.nd, by have := ids_ln pk ids; have := o.ln; omega⟩, t3, fun j h1 h2 h3 h4 => by rw [u2 j h3]; exact t4 j h1 h2 h4, by omega, t4⟩
  · rw [u2 p hpq]; exact t1
  · rw [u2 a' (by rcases t3 with rfl | h; exact haq; omega)]; exact t2
end TH.k31
namespace TH.k31
open TH TH.Q
structure LI (m t : Nat) (st : St) (a0 a1 : Nat) (i0 i1 : List Int) : Prop where
  tw : TW t st
  o0 : One st 1 5 a0 m i0
  o1 : One st 3 6 a1 m i1
  ls : st[7]? = some (.ml [.ref 5, .ref 6])
  n0 : a0 ≠ 0 ∧ a0 ≠ 5 ∧ a0 ≠ 6 ∧ a0 ≠ 7
  n1 : a1 ≠ 0 ∧ a1 ≠ 5 ∧ a1 ≠ 6 ∧ a1 ≠ 7
  ne : a0 ≠ a1
theorem fr_pos {st st' : St} (f : Fr0 st st') {j : Nat} (h : j ≠ 0) : st'[j]? = st[j]? := by
  obtain ⟨i, rfl⟩ : ∃ i, j = i + 1 := ⟨j - 1, by omega⟩
  exact f.at_ i
theorem One.fr {st st' : St} {p q a m : Nat} {ids : List Int} (o : One st p q a m ids) (f : Fr0 st st') (hp : p ≠ 0) (hq : q ≠ 0) (ha : a ≠ 0) : One st' p q a m ids :=
  ⟨(fr_pos f hp).trans o.tk, (fr_pos f ha).trans o.ls, (fr_pos f hq).trans o.lw, o.nd, o.ln⟩
theorem LI.fr {m t t' : Nat} {st st' : St} {a0 a1 : Nat} {i0 i1 : List Int} (l : LI m t st a0 a1 i0 i1) (f : Fr0 st st') (tw : TW t' st') : LI m t' st' a0 a1 i0 i1 :=
  ⟨tw, l.o0.fr f (by omega) (by omega) l.n0.1, l.o1.fr f (by omega) (by omega) l.n1.1, (fr_pos f (by omega)).trans l.ls, l.n0, l.n1, l.ne⟩
theorem One.keep {st st' : St} {p q a m m' : Nat} {ids : List Int} (o : One st p q a m ids) (h : ∀ j, (j = p ∨ j = a ∨ j = q) → st'[j]? = st[j]?) (hm : m ≤ m') : One st' p q a m' ids :=
  ⟨(h p (.inl rfl)).trans o.tk, (h a (.inr (.inl rfl))).trans o.ls, (h q (.inr (.inr rfl))).trans o.lw, o.nd, Nat.le_trans o.ln hm⟩
/-- the turn's deed at one of the two -/
theorem deed (k : Nat) (pk : Pk) (hg : pk.good) {m t : Nat} {st : St} {a0 a1 : Nat} {i0 i1 : List Int} (l : LI m t st a0 a1 i0 i1) (hm : m ≤ 900) (at_ : Nat) (hat : at_ < 2) :
    ∃ ids st1 st2 b0 b1 j0 j1, run (k + 1) 1 [.ref (1 + 2 * at_), pk.d] st = .ok (pk.val ids) st1 ∧ run (k + 1) 7 [pk.d, .ref (5 + at_)] st1 = .ok (pk.val ids) st2 ∧ st1[7]? = some (.ml [.ref 5, .ref 6]) ∧ LI (m + 1) t st2 b0 b1 j0 j1 := by
  obtain ⟨tw, o0, o1, ls, n0, n1, ne⟩ := l
  have l7 := lt_of_get ls
  have la0 := lt_of_get o0.ls
  have la1 := lt_of_get o1.ls
  have x01 : a0 ≠ 1 := fun e => by have := o0.ls; rw [e, o0.tk] at this; cases this
  have x03 : a0 ≠ 3 := fun e => by have := o0.ls; rw [e, o1.tk] at this; cases this
  have x11 : a1 ≠ 1 := fun e => by have := o1.ls; rw [e, o0.tk] at this; cases this
  have x13 : a1 ≠ 3 := fun e => by have := o1.ls; rw [e, o1.tk] at this; cases this
  rcases (show at_ = 0 ∨ at_ = 1 by omega) with rfl | rfl
  · obtain ⟨st1, st2, a', e1, e2, o', ha', fr, len, fr1⟩ := both_do k pk hg o0 hm n0.2.1 (by omega)
    refine ⟨i0, st1, st2, a', a1, _, i1, e1, e2, ?_, ?_, o', o1.keep ?_ (by omega), ?_, ?_, n1, ?_⟩
    · rw [fr1 7 (by omega) (by omega) l7]; exact ls
    · exact (fr 0 (by omega) (by omega) (by omega) (by omega)).trans tw
    · rintro j (rfl | rfl | rfl)
      · exact fr 3 (by omega) (by omega) (by omega) (by omega)
      · exact fr _ x11 (Ne.symm ne) n1.2.1 la1
      · exact fr 6 (by omega) (by omega) (by omega) (by omega)
    · exact (fr 7 (by omega) (by omega) (by omega) l7).trans ls
    · rcases ha' with rfl | h
      · exact n0
      · omega
    · rcases ha' with rfl | h
      · exact ne
      · omega
  · obtain ⟨st1, st2, a', e1, e2, o', ha', fr, len, fr1⟩ := both_do k pk hg o1 hm n1.2.2.1 (by omega)
    refine ⟨i1, st1, st2, a0, a', i0, _, e1, e2, ?_, ?_, o0.keep ?_ (by omega), o', ?_, n0, ?_, ?_⟩
    · rw [fr1 7 (by omega) (by omega) l7]; exact ls
    · exact (fr 0 (by omega) (by omega) (by omega) (by omega)).trans tw
    · rintro j (rfl | rfl | rfl)
      · exact fr 1 (by omega) (by omega) (by omega) (by omega)
      · exact fr _ x03 ne n0.2.2.1 la0
      · exact fr 5 (by omega) (by omega) (by omega) (by omega)
    · exact (fr 7 (by omega) (by omega) (by omega) l7).trans ls
    · rcases ha' with rfl | h
      · exact n1
      · omega
    · rcases ha' with rfl | h
      · exact ne
      · omega
/-- the envs -/
def E10 (ns : List Int) (e4 e5 e6 e7 e8 e9 e10 : Option D) : Env := [some (scr ns), some (.ref 0), some (.lst [.ref 1, .ref 3]), some (.ref 7), e4, e5, e6, e7, e8, e9, e10]
/-- a packet is drawn -/
theorem pk_ok (ns : List Int) (k t : Nat) (st : St) (i : TW t st) (ht : t < 100000) (e4 e5 e7 e8 e9 e10 : Option D) (n : Int) :
    ∃ (pk : Pk) (st' : St) (t' : Nat) (e9' e10' : Option D), L_law_4b_3 (run (k + 6)) (E10 ns e4 e5 (some (.int n)) e7 e8 e9 e10) st = .nx (E10 ns e4 e5 (some (.int n)) e7 (some pk.d) e9' e10') st' ∧ pk.good ∧ TW t' st' ∧ t' ≤ t + 6 ∧ Fr0 st st' := by
  unfold L_law_4b_3 L_law_4b_3e L_law_4b_3e_1 L_law_4b_3e_2 L_law_4b_3e_3 E10
  obtain ⟨r, s1, hr, e1, i1, f1⟩ := (r__law_draw ns (k + 3)).fr i 3 (by omega) (by omega)
  have e1' : run (k + 6) 4 [scr ns, .ref 0, .int 3] st = .ok (.int r) s1 := e1
  by_cases h0 : r = 0
  · subst h0
    refine ⟨.free n, s1, t + 1, e9, e10, ?_, trivial, i1, by omega, f1⟩
    simp [e1', Pk.d, sFree]
  · obtain ⟨a, b, g, kp, s2, e2, hg, ha, hb, i2, f2⟩ := small_ok ns k (t + 1) s1 i1 (by omega)
    obtain ⟨q, s3, hq, e3, i3, f3⟩ := (r__law_draw ns (k + 3)).fr i2 2 (by omega) (by omega)
    have e3' : run (k + 6) 4 [scr ns, .ref 0, .int 2] s2 = .ok (.int q) s3 := e3
    have ad : ∀ (x y : D) (s : St), oAdd (.tup [.str [115, 97, 121]]) (.tup [.str a, .str b, .int (g : Int), .bl kp]) s = some (.tup ([.str [115, 97, 121]] ++ [.str a, .str b, .int (g : Int), .bl kp])) := fun _ _ s => oAdd_tup (by simp) rfl
    have ad2 : ∀ (x y : D) (s : St), oAdd (.tup [.str [115, 97, 121], .str a, .str b, .int (g : Int), .bl kp]) (.tup [x, y]) s = some (.tup ([.str [115, 97, 121], .str a, .str b, .int (g : Int), .bl kp] ++ [x, y])) := fun _ _ s => oAdd_tup (by simp) rfl
    by_cases hg0 : 0 < g
    · have hg' : (0 : Int) < g := by omega
      refine ⟨.say a b g kp ((q : Int) == 0) n, s3, t + 6, some (.tup [.str a, .str b, .int (g : Int), .bl kp]), some (.bl ((q : Int) == 0)), ?_, ⟨hg, ha, hb⟩, i3, by omega, (f1.trans f2).trans f3⟩
      simp [e1', h0, e2, hg0, hg', e3', ad .non .non, ad2, Pk.d, sSay]
    · have hg' : ¬ (0 : Int) < g := by omega
      refine ⟨.say a b g kp false 0, s2, t + 5, some (.tup [.str a, .str b, .int (g : Int), .bl kp]), some (.bl false), ?_, ⟨hg, ha, hb⟩, i2, by omega, f1.trans f2⟩
      simp [e1', h0, e2, hg0, hg', ad .non .non, ad2, Pk.d, sSay]
def LQ (ns : List Int) (n : Nat) (env : Env) (st : St) : Prop := ∃ (m t a0 a1 : Nat) (i0 i1 : List Int) (e4 e5 e6 e7 e8 e9 e10 : Option D), env = E10 ns e4 e5 e6 e7 e8 e9 e10 ∧ LI m t st a0 a1 i0 i1 ∧ m + n ≤ 100 ∧ t + 10 * n ≤ 10000
theorem turn_ok (ns : List Int) (k n : Nat) (a : Nat) (env : Env) (st : St) (h : LQ ns (n + 1) env st) :
    ∃ env1 env2 st', (Tg.name 4).put (.int (a : Int)) env st = some env1 ∧ L_law_4b (run (k + 6)) env1 st = .nx env2 st' ∧ LQ ns n env2 st' := by
  obtain ⟨m, t, a0, a1, i0, i1, e4, e5, e6, e7, e8, e9, e10, rfl, l, hm, ht⟩ := h
  obtain ⟨d1, s1, hd1, x1, tw1, f1⟩ := (r__law_pick ns (k + 2)).fr l.tw [.int 0, .int 0, .int 1] (by omega) (by simp)
  have l1 := l.fr f1 tw1
  obtain ⟨d2, s2, hd2, x2, tw2, f2⟩ := (r__law_pick ns (k + 2)).fr tw1 [.int 1, .int 2, .int 3, .int 4, .int 65535] (by omega) (by simp)
  have l2 := l1.fr f2 tw2
  obtain ⟨at_, rfl, hat⟩ : ∃ at_ : Nat, d1 = .int (at_ : Int) ∧ at_ < 2 := by
    simp only [List.mem_cons, List.not_mem_nil, or_false] at hd1
    rcases hd1 with rfl | rfl | rfl
    · exact ⟨0, rfl, by omega⟩
    · exact ⟨0, rfl, by omega⟩
    · exact ⟨1, rfl, by omega⟩
  obtain ⟨no, rfl⟩ : ∃ no : Int, d2 = .int no := by
    simp only [List.mem_cons, List.not_mem_nil, or_false] at hd2
    rcases hd2 with rfl | rfl | rfl | rfl | rfl <;> exact ⟨_, rfl⟩
  obtain ⟨pk, s3, t3, e9', e10', x3, hg, tw3, ht3, f3⟩ := pk_ok ns k _ s2 tw2 (by omega) (some (.int (a : Int))) (some (.int (at_ : Int))) e7 e8 e9 e10 no
  have l3 := l2.fr f3 tw3
  obtain ⟨ids, s4, s5, b0, b1, j0, j1, x4, x5, z7, l5⟩ := deed (k + 5) pk hg l3 (by omega) at_ hat
  have hv := val_pu hg ids
  have hne : oNe (pk.val ids) (pk.val ids) s5 = some (.bl false) := oNe_of (oEq_refl hv)
  have hit : ∀ st, isiT 4 (pk.val ids) st = some true := fun st => val_tup pk ids st
  have ix2 : ∀ st, oIx (.lst [.ref 1, .ref 3]) (.int (at_ : Int)) st = some (.ref (1 + 2 * at_)) := by
    intro st
    rw [oIx_lst]
    rcases (show at_ = 0 ∨ at_ = 1 by omega) with rfl | rfl <;> rfl
  have ix3 : oIx (.ref 7) (.int (at_ : Int)) s4 = some (.ref (5 + at_)) := by
    rw [oIx_ref (l := [.ref 5, .ref 6]) (by rw [z7]; rfl), oIx_lst]
    rcases (show at_ = 0 ∨ at_ = 1 by omega) with rfl | rfl <;> rfl
  have tk : ∃ fs, s3[1 + 2 * at_]? = some (.ins 0 fs) ∧ fok 1 fs = true := by
    rcases (show at_ = 0 ∨ at_ = 1 by omega) with rfl | rfl
    · exact ⟨_, l3.o0.tk, rfl⟩
    · exact ⟨_, l3.o1.tk, rfl⟩
  obtain ⟨fs, tk1, tk2⟩ := tk
  have mtt : mt_took 0 = some 1 := rfl
  refine ⟨_, E10 ns (some (.int (a : Int))) (some (.int (at_ : Int))) (some (.int no)) (some (pk.val ids)) (some pk.d) e9' e10', s5, rfl, ?_, m + 1, t3, b0, b1, j0, j1, _, _, _, _, _, _, _, rfl, l5, by omega, by omega⟩
  unfold L_law_4b L_law_4b_1 L_law_4b_2 L_law_4b_4 L_law_4b_5
  have x3' := x3
  simp only [E10] at x3'
  have x1' : run (k + 6) 5 [scr ns, .ref 0, .lst [.int 0, .int 0, .int 1]] st = .ok (.int (at_ : Int)) s1 := x1
  have x2' : run (k + 6) 5 [scr ns, .ref 0, .lst [.int 1, .int 2, .int 3, .int 4, .int 65535]] s1 = .ok (.int no) s2 := x2
  have x4' : run (k + 6) 1 [.ref (1 + 2 * at_), pk.d] s3 = .ok (pk.val ids) s4 := x4
  have x5' : run (k + 6) 7 [pk.d, .ref (5 + at_)] s4 = .ok (pk.val ids) s5 := x5
  simp only [E10, ap_seq, ap_set, ap_call, ap_cons, ap_var, List.set_cons_succ, List.set_cons_zero, List.getElem?_cons_succ, get_zero, get_one, get_two, vr_some, bind_ok, ap_cns1, ap_xlst, ap_llst, ap_C, ap_nil, ap_cns2, lst1_3, lst1_5, ap_val1, x1', x2', bindS_ok, ap_set1, seq_nx, x3', ap_meth, ap_bin, ap_bin1, ap_bin2, ix2, ofO_some, ap_mth1, tk1, ap_mth2, mtt, ap_mth3, tk2, if_true, ap_mth4, x4', ap_sif, ap_or, ap_not, ap_isi, ap_isi1, hit, Option.map_some, ap_not1, truthy_bl, ap_not2, Bool.not_true, ap_or1, ap_or2, ix3, x5', or3_f, hne, ap_sif1, sif2_f, ap_skip]
theorem law_true (ns : List Int) (hl : ns.length ≤ 63) : ∃ st, run 60 8 [.lst (ns.map D.int)] [] = .ok (.bl true) st := by
  have h : OkQ (run 60 8 [scr ns] []) (fun d _ => d = .bl true) := by
    have hrun : run 60 8 [scr ns] [] = fin (L_law (run 59) [some (scr ns), none, none, none, none, none, none, none, none, none, none] []) := rfl
    rw [hrun]
    unfold L_law L_law_1 L_law_2 L_law_3 L_law_4 L_law_5
    have init : ∀ (st : St), run 59 0 [.ref st.length] (st ++ [.ins 0 []]) = .ok .non ((st ++ [Ob.ins 0 []] ++ [Ob.ml []]).set st.length (.ins 0 [(0, .ref (st.length + 1))])) := by
      intro st
      show body 1 1 (B_Taker___init__ (run 58)) [.ref st.length] _ = _
      rw [ap_body (by rfl)]
      unfold B_Taker___init__
      simp [ok_numbers, fok, fput]
    let st3 : St := [.ml [], .ins 0 [(0, .ref 2)], .ml [], .ins 0 [(0, .ref 4)], .ml [], .ml [], .ml [], .ml [.ref 5, .ref 6]]
    have hst3 : st3 = [.ml [], .ins 0 [(0, .ref 2)], .ml [], .ins 0 [(0, .ref 4)], .ml [], .ml [], .ml [], .ml [.ref 5, .ref 6]] := rfl
    have i1 := init [.ml []]
    have i2 := init [.ml [], .ins 0 [(0, .ref 2)], .ml []]
    simp at i1 i2
    have tw : TW 0 st3 := rfl
    have li : LI 0 0 st3 2 4 [] [] := ⟨rfl, ⟨rfl, rfl, rfl, List.nodup_nil, Nat.le_refl _⟩, ⟨rfl, rfl, rfl, List.nodup_nil, Nat.le_refl _⟩, rfl, by omega, by omega, by omega⟩
    obtain ⟨r, s, hr, er, tws, fs⟩ := (r__law_draw ns 56).fr tw 41 (by omega) (by omega)
    have er' : run 59 4 [scr ns, .ref 0, .int 41] st3 = .ok (.int r) s := er
    have hrg : rng1 (.int (r : Int)) s = .ok (.data ((List.range r).map fun (k : Nat) => D.int (k : Int))) s := rng1_ok (by omega)
    obtain ⟨env', st', e, i⟩ := fData_inv (t := .name 4) (b := L_law_4b (run 59)) (fun k : Nat => D.int (k : Int)) (fun n env st => LQ ns n env st) (List.range r) (E10 ns none none none none none none none) s
      ⟨0, 1, 2, 4, [], [], none, none, none, none, none, none, none, rfl, li.fr fs tws, by simp; omega, by simp; omega⟩ (fun a _ n env st h => turn_ok ns 53 n a env st h)
    have e' := e
    simp only [E10] at e'
    rw [hst3] at er'
    simp [i1, i2, er', hrg, e']
  obtain ⟨d, st, h, rfl⟩ := h
  exact ⟨st, h⟩
end TH.k31
end
set_option Elab.async false
set_option linter.all false
set_option autoImplicit false
set_option maxRecDepth 100000
set_option maxHeartbeats 4000000
/-! E_k31: the end (printed by gen.py). -/
namespace TH.k31
open PySem L2 TL PyProof.Rows TH
def spLaw (K : PySem.W.Frag) : Sp := fun vs H Q E => ∀ cA : Nat → Addr, spC (L0 K cA) (run 60 8) vs H Q E
theorem all_mk {l : PySem.W.OpenLaw} {w : World} {K : PySem.W.Frag} {h : Heap} {mg : Str → Option Value} {fa : Addr} (X : K.In h) (G : h.Ns mainGlobals mg) (hfa : mg "law" = some (.ref fa))
    {C0 : Addr}
    {f0 : Addr} {od0 an0 : Option Addr} {sl0 : Array (Option Value)} {oc0 kV0 dc0 pm0 cd0 ct0 : Value}
    {f1 : Addr} {od1 an1 : Option Addr} {sl1 : Array (Option Value)} {oc1 kV1 dc1 pm1 cd1 ct1 : Value}
    {f2 : Addr} {od2 an2 : Option Addr} {sl2 : Array (Option Value)} {oc2 kV2 dc2 pm2 cd2 ct2 : Value}
    {f3 : Addr} {od3 an3 : Option Addr} {sl3 : Array (Option Value)} {oc3 kV3 dc3 pm3 cd3 ct3 : Value}
    {f4 : Addr} {od4 an4 : Option Addr} {sl4 : Array (Option Value)} {oc4 kV4 dc4 pm4 cd4 ct4 : Value}
    {f5 : Addr} {od5 an5 : Option Addr} {sl5 : Array (Option Value)} {oc5 kV5 dc5 pm5 cd5 ct5 : Value}
    {f6 : Addr} {od6 an6 : Option Addr} {sl6 : Array (Option Value)} {oc6 kV6 dc6 pm6 cd6 ct6 : Value}
    {f7 : Addr} {od7 an7 : Option Addr} {sl7 : Array (Option Value)} {oc7 kV7 dc7 pm7 cd7 ct7 : Value}
    {f8 : Addr} {od8 an8 : Option Addr} {sl8 : Array (Option Value)} {oc8 kV8 dc8 pm8 cd8 ct8 : Value}
    (x0 : PySem.W.nsIn K mainGlobals "Taker" = some (some (.ref C0)))
    (cp0 : PySem.W.plainGet K C0 Str.empty = true)
    (ch0 : PySem.W.hasDictIn K C0 = true)
    (co0 : PySem.W.plainOver K C0 = true)
    (cs0 : PySem.W.findIn K (.ref C0) "__setattr__" = some (some (.builtin "object.__setattr__")))
    (mk0 : PySem.W.makesIn K C0 = true)
    (kp0 : PySem.W.keepIn K (.ref C0) = true)
    (na0_numbers : PySem.W.findIn K (.ref C0) "numbers" = some none)
    (a0 : PySem.W.findIn K (.ref C0) "__init__" = some (some (.ref f0)))
    (fi0 : PySem.W.isFn K (.ref f0) = true)
    (l0 : K.lookup f0 = some ⟨oc0, od0, .func (PySem.W.fnOf "__init__" "Taker.__init__" (defArgs s_Taker___init__) (defBody s_Taker___init__) (defScope s_Taker___init__) .none kV0 dc0 pm0 an0 cd0 ct0), sl0⟩)
    (c0 : PySem.W.codeIn K cd0 "Taker.__init__" = true)
    (k0 : PySem.W.keepIn K (.ref f0) = true)
    (a1 : PySem.W.findIn K (.ref C0) "took" = some (some (.ref f1)))
    (fi1 : PySem.W.isFn K (.ref f1) = true)
    (l1 : K.lookup f1 = some ⟨oc1, od1, .func (PySem.W.fnOf "took" "Taker.took" (defArgs s_Taker_took) (defBody s_Taker_took) (defScope s_Taker_took) .none kV1 dc1 pm1 an1 cd1 ct1), sl1⟩)
    (c1 : PySem.W.codeIn K cd1 "Taker.took" = true)
    (k1 : PySem.W.keepIn K (.ref f1) = true)
    (a2 : PySem.W.nsIn K mainGlobals "_law_cell" = some (some (.ref f2)))
    (l2 : K.lookup f2 = some ⟨oc2, od2, .func (PySem.W.fnOf "_law_cell" "_law_cell" (defArgs s__law_cell) (defBody s__law_cell) (defScope s__law_cell) .none kV2 dc2 pm2 an2 cd2 ct2), sl2⟩)
    (c2 : PySem.W.codeIn K cd2 "_law_cell" = true)
    (k2 : PySem.W.keepIn K (.ref f2) = true)
    (a3 : PySem.W.nsIn K mainGlobals "_law_mix" = some (some (.ref f3)))
    (l3 : K.lookup f3 = some ⟨oc3, od3, .func (PySem.W.fnOf "_law_mix" "_law_mix" (defArgs s__law_mix) (defBody s__law_mix) (defScope s__law_mix) .none kV3 dc3 pm3 an3 cd3 ct3), sl3⟩)
    (c3 : PySem.W.codeIn K cd3 "_law_mix" = true)
    (k3 : PySem.W.keepIn K (.ref f3) = true)
    (a4 : PySem.W.nsIn K mainGlobals "_law_draw" = some (some (.ref f4)))
    (l4 : K.lookup f4 = some ⟨oc4, od4, .func (PySem.W.fnOf "_law_draw" "_law_draw" (defArgs s__law_draw) (defBody s__law_draw) (defScope s__law_draw) .none kV4 dc4 pm4 an4 cd4 ct4), sl4⟩)
    (c4 : PySem.W.codeIn K cd4 "_law_draw" = true)
    (k4 : PySem.W.keepIn K (.ref f4) = true)
    (a5 : PySem.W.nsIn K mainGlobals "_law_pick" = some (some (.ref f5)))
    (l5 : K.lookup f5 = some ⟨oc5, od5, .func (PySem.W.fnOf "_law_pick" "_law_pick" (defArgs s__law_pick) (defBody s__law_pick) (defScope s__law_pick) .none kV5 dc5 pm5 an5 cd5 ct5), sl5⟩)
    (c5 : PySem.W.codeIn K cd5 "_law_pick" = true)
    (k5 : PySem.W.keepIn K (.ref f5) = true)
    (a6 : PySem.W.nsIn K mainGlobals "_law_small" = some (some (.ref f6)))
    (l6 : K.lookup f6 = some ⟨oc6, od6, .func (PySem.W.fnOf "_law_small" "_law_small" (defArgs s__law_small) (defBody s__law_small) (defScope s__law_small) .none kV6 dc6 pm6 an6 cd6 ct6), sl6⟩)
    (c6 : PySem.W.codeIn K cd6 "_law_small" = true)
    (k6 : PySem.W.keepIn K (.ref f6) = true)
    (a7 : PySem.W.nsIn K mainGlobals "_law_due" = some (some (.ref f7)))
    (l7 : K.lookup f7 = some ⟨oc7, od7, .func (PySem.W.fnOf "_law_due" "_law_due" (defArgs s__law_due) (defBody s__law_due) (defScope s__law_due) .none kV7 dc7 pm7 an7 cd7 ct7), sl7⟩)
    (c7 : PySem.W.codeIn K cd7 "_law_due" = true)
    (k7 : PySem.W.keepIn K (.ref f7) = true)
    (a8 : PySem.W.nsIn K mainGlobals "law" = some (some (.ref f8)))
    (l8 : K.lookup f8 = some ⟨oc8, od8, .func (PySem.W.fnOf "law" "law" (defArgs s_law) (defBody s_law) (defScope s_law) .none kV8 dc8 pm8 an8 cd8 ct8), sl8⟩)
    (c8 : PySem.W.codeIn K cd8 "law" = true)
    (k8 : PySem.W.keepIn K (.ref f8) = true)
    (z_isinstance : PySem.W.nsIn K mainGlobals "isinstance" = some none)
    (z_len : PySem.W.nsIn K mainGlobals "len" = some none)
    (z_range : PySem.W.nsIn K mainGlobals "range" = some none)
    (z_tuple : PySem.W.nsIn K mainGlobals "tuple" = some none)
    : ∃ fd : FuncData, (∀ (s : Shared) (v : Value), BindsTo s fd ⟨[v], []⟩ [("_law_script", v)]) ∧ ∀ base : Heap, K.In base → base.Ns mainGlobals mg → FnOk l.prog w K mg base (L2.CX l.prog w) 120 fa fd ["_law_script"] (spLaw K) := by
  have e : f8 = fa := Value.ref.inj (Option.some.inj ((PySem.W.mg_of X G a8).symm.trans hfa))
  subst e
  have T : Txt K mg (fun | 0 => f0 | 1 => f1 | 2 => f2 | 3 => f3 | 4 => f4 | 5 => f5 | 6 => f6 | 7 => f7 | 8 => f8 | _ => f0) (fun | 0 => PySem.W.fnOf "__init__" "Taker.__init__" (defArgs s_Taker___init__) (defBody s_Taker___init__) (defScope s_Taker___init__) .none kV0 dc0 pm0 an0 cd0 ct0 | 1 => PySem.W.fnOf "took" "Taker.took" (defArgs s_Taker_took) (defBody s_Taker_took) (defScope s_Taker_took) .none kV1 dc1 pm1 an1 cd1 ct1 | 2 => PySem.W.fnOf "_law_cell" "_law_cell" (defArgs s__law_cell) (defBody s__law_cell) (defScope s__law_cell) .none kV2 dc2 pm2 an2 cd2 ct2 | 3 => PySem.W.fnOf "_law_mix" "_law_mix" (defArgs s__law_mix) (defBody s__law_mix) (defScope s__law_mix) .none kV3 dc3 pm3 an3 cd3 ct3 | 4 => PySem.W.fnOf "_law_draw" "_law_draw" (defArgs s__law_draw) (defBody s__law_draw) (defScope s__law_draw) .none kV4 dc4 pm4 an4 cd4 ct4 | 5 => PySem.W.fnOf "_law_pick" "_law_pick" (defArgs s__law_pick) (defBody s__law_pick) (defScope s__law_pick) .none kV5 dc5 pm5 an5 cd5 ct5 | 6 => PySem.W.fnOf "_law_small" "_law_small" (defArgs s__law_small) (defBody s__law_small) (defScope s__law_small) .none kV6 dc6 pm6 an6 cd6 ct6 | 7 => PySem.W.fnOf "_law_due" "_law_due" (defArgs s__law_due) (defBody s__law_due) (defScope s__law_due) .none kV7 dc7 pm7 an7 cd7 ct7 | 8 => PySem.W.fnOf "law" "law" (defArgs s_law) (defBody s_law) (defScope s_law) .none kV8 dc8 pm8 an8 cd8 ct8 | _ => PySem.W.fnOf "__init__" "Taker.__init__" (defArgs s_Taker___init__) (defBody s_Taker___init__) (defScope s_Taker___init__) .none kV0 dc0 pm0 an0 cd0 ct0) (fun | 0 => C0 | _ => C0) := {
    F_Taker___init__ := fun_mk (st := s_Taker___init__) l0 c0 k0
    b_Taker___init__ := (fun_mk (st := s_Taker___init__) l0 c0 k0).binds (ps := ps_Taker___init__) fun _ _ _ _ _ _ us hl => match us, hl with | [_], _ => rfl
    I_Taker := ⟨mk0, a0, fi0, kp0⟩
    F_Taker_took := fun_mk (st := s_Taker_took) l1 c1 k1
    b_Taker_took := (fun_mk (st := s_Taker_took) l1 c1 k1).binds (ps := ps_Taker_took) fun _ _ _ _ _ _ us hl => match us, hl with | [_, _], _ => rfl
    M_Taker_took := ⟨a1, fi1, k1⟩
    F__law_cell := fun_mk (st := s__law_cell) l2 c2 k2
    b__law_cell := (fun_mk (st := s__law_cell) l2 c2 k2).binds (ps := ps__law_cell) fun _ _ _ _ _ _ us hl => match us, hl with | [_, _], _ => rfl
    m__law_cell := PySem.W.mg_of X G a2
    k__law_cell := k2
    F__law_mix := fun_mk (st := s__law_mix) l3 c3 k3
    b__law_mix := (fun_mk (st := s__law_mix) l3 c3 k3).binds (ps := ps__law_mix) fun _ _ _ _ _ _ us hl => match us, hl with | [_, _], _ => rfl
    m__law_mix := PySem.W.mg_of X G a3
    k__law_mix := k3
    F__law_draw := fun_mk (st := s__law_draw) l4 c4 k4
    b__law_draw := (fun_mk (st := s__law_draw) l4 c4 k4).binds (ps := ps__law_draw) fun _ _ _ _ _ _ us hl => match us, hl with | [_, _, _], _ => rfl
    m__law_draw := PySem.W.mg_of X G a4
    k__law_draw := k4
    F__law_pick := fun_mk (st := s__law_pick) l5 c5 k5
    b__law_pick := (fun_mk (st := s__law_pick) l5 c5 k5).binds (ps := ps__law_pick) fun _ _ _ _ _ _ us hl => match us, hl with | [_, _, _], _ => rfl
    m__law_pick := PySem.W.mg_of X G a5
    k__law_pick := k5
    F__law_small := fun_mk (st := s__law_small) l6 c6 k6
    b__law_small := (fun_mk (st := s__law_small) l6 c6 k6).binds (ps := ps__law_small) fun _ _ _ _ _ _ us hl => match us, hl with | [_, _], _ => rfl
    m__law_small := PySem.W.mg_of X G a6
    k__law_small := k6
    F__law_due := fun_mk (st := s__law_due) l7 c7 k7
    b__law_due := (fun_mk (st := s__law_due) l7 c7 k7).binds (ps := ps__law_due) fun _ _ _ _ _ _ us hl => match us, hl with | [_, _], _ => rfl
    m__law_due := PySem.W.mg_of X G a7
    k__law_due := k7
    F_law := fun_mk (st := s_law) l8 c8 k8
    b_law := (fun_mk (st := s_law) l8 c8 k8).binds (ps := ps_law) fun _ _ _ _ _ _ us hl => match us, hl with | [_], _ => rfl
    m_law := PySem.W.mg_of X G a8
    k_law := k8
    C_Taker := ⟨cp0, ch0, co0, cs0⟩
    x_Taker := PySem.W.mg_of X G x0
    A_Taker_numbers := na0_numbers
    z_isinstance := PySem.W.mg_none_of X G z_isinstance
    z_len := PySem.W.mg_none_of X G z_len
    z_range := PySem.W.mg_none_of X G z_range
    z_tuple := PySem.W.mg_none_of X G z_tuple
    }
  exact ⟨_, fun s v => .of_eq rfl, fun base _ _ => (oks (P := l.prog) (w := w) (base := base) T 60).o_law.imp fun vs H Q E q => q _⟩
theorem walk {l : PySem.W.OpenLaw} {q : Program} {loose : List Str} {XP : (Str → Option Value) → Heap → Prop} {YP : World → Heap → Prop} {d : DefRec} {K : Params → PySem.W.Frag} (hn : l.most = some 63) (hdf : d.params.defaults = [])
    (hY : ∀ (w : World) (h : Heap), YP w h → (K w.params).In h)
    (F : ∀ (w : World) (mg : Str → Option Value) (fa : Addr) (h : Heap), (K w.params).In h → h.Ns mainGlobals mg → mg d.name = some (.ref fa) →
      ∃ fd : FuncData, (∀ (s : Shared) (u : Value), BindsTo s fd ⟨[u], []⟩ [("_law_script", u)]) ∧ ∀ base : Heap, (K w.params).In base → base.Ns mainGlobals mg → FnOk l.prog w (K w.params) mg base (L2.CX l.prog w) 120 fa fd ["_law_script"] (spLaw (K w.params))) :
    PySem.W.WalkO q loose XP YP l.row.toRowW d [] (fun f vs => PySem.call f vs) :=
  L2.walk_of (n := 63) (k := 120) (x := "_law_script") (CX := fun w => L2.CX l.prog w) (sp := fun w => spLaw (K w.params)) hn (by decide) hdf ⟨rfl, by decide, by decide⟩ hY F
    (fun w H a ns hl ho hS cA => law_end ho hS (law_true ns hl)) fun w H s e s' ⟨_, _, _, _, _, _, _, _, _, _, _, _, z⟩ => z
end TH.k31
open PySem PySem.W PyProof.Rows
set_option maxRecDepth 100000 in
set_option maxHeartbeats 0 in
theorem PySem.Challenge.cw_tidinghall_k31_whole_taker_holds : PySem.Challenge.rw_tidinghall_k31_whole_taker.Holds := by
  w_on; o_law; k_head; (case hw => w_witness2)
  k_fill
  refine TH.k31.walk (l := PySem.Challenge.rw_tidinghall_k31_whole_taker) rfl rfl (fun w h Y => PySem.W.kIn_of Y) ?F
  case F =>
    intro w mg fa h KX G hmg
    refine' TH.k31.all_mk KX G hmg ?x0 ?cp0 ?ch0 ?co0 ?cs0 ?mk0 ?kp0 ?na0_numbers ?a0 ?fi0 ?l0 ?c0 ?k0 ?a1 ?fi1 ?l1 ?c1 ?k1 ?a2 ?l2 ?c2 ?k2 ?a3 ?l3 ?c3 ?k3 ?a4 ?l4 ?c4 ?k4 ?a5 ?l5 ?c5 ?k5 ?a6 ?l6 ?c6 ?k6 ?a7 ?l7 ?c7 ?k7 ?a8 ?l8 ?c8 ?k8 ?z_isinstance ?z_len ?z_range ?z_tuple
    (case x0 => k_is)
    (case cp0 => k_is)
    (case ch0 => k_is)
    (case co0 => k_is)
    (case cs0 => k_is)
    (case mk0 => k_is)
    (case kp0 => k_is)
    (case na0_numbers => k_is)
    (case a0 => k_is)
    (case fi0 => k_is)
    (case l0 => k_is)
    (case c0 => k_is)
    (case k0 => k_is)
    (case a1 => k_is)
    (case fi1 => k_is)
    (case l1 => k_is)
    (case c1 => k_is)
    (case k1 => k_is)
    (case a2 => k_is)
    (case l2 => k_is)
    (case c2 => k_is)
    (case k2 => k_is)
    (case a3 => k_is)
    (case l3 => k_is)
    (case c3 => k_is)
    (case k3 => k_is)
    (case a4 => k_is)
    (case l4 => k_is)
    (case c4 => k_is)
    (case k4 => k_is)
    (case a5 => k_is)
    (case l5 => k_is)
    (case c5 => k_is)
    (case k5 => k_is)
    (case a6 => k_is)
    (case l6 => k_is)
    (case c6 => k_is)
    (case k6 => k_is)
    (case a7 => k_is)
    (case l7 => k_is)
    (case c7 => k_is)
    (case k7 => k_is)
    (case a8 => k_is)
    (case l8 => k_is)
    (case c8 => k_is)
    (case k8 => k_is)
    (case z_isinstance => k_is)
    (case z_len => k_is)
    (case z_range => k_is)
    (case z_tuple => k_is)
#print axioms PySem.Challenge.cw_tidinghall_k31_whole_taker_holds

