import PyProof.Rows.All
import Wide.All
import OpenK.AllK
import Wide.FinOn
import HandS.ForMost
import HandS.ForExc
import HandS.Flow
import HandS.Wide
import HandS.WideBits
import HandS.IsInst
import HandS.Deep
import HandS.Defaults
import HandS.Head2
import HandS.HeadEnd
import HandS.HeadHook2
import PySem.Challenge.RW_figurestay_k49_whole_running_totals
set_option Elab.async false
set_option linter.all false
set_option maxRecDepth 100000
set_option maxHeartbeats 1000000
/-! Pv, part A: plain values, the store, the evaluator over the program's own syntax tree. -/
namespace Pv
open PySem
abbrev Key := L2.Key

inductive D where
  | non | bl (b : Bool) | int (i : Int) | str (x : Str)
  | scr (ns : List Int)
  | tup (ds : List D) | lst (ds : List D) | dct (kvs : List (Key × D)) | ins (c : Str) (fs : List (Str × D))
  | mu (i : Nat)

inductive MO where
  | gone | lst (ds : List D) | dct (kvs : List (Key × D)) | ins (c : Str) (fs : List (Str × D)) | frz (d : D)

abbrev Sto := List MO
inductive Res (α : Type) where
  | ok (a : α) (S : Sto)
  | exc (c : Str) (fs : List (Str × D)) (S : Sto)
  | bad

abbrev Ev := List (Option D)
abbrev DE := Ev → Sto → Res D
abbrev DT := Ev → Sto → Res Bool
abbrev DA := Ev → Sto → Res (List D)

def Res.bind {α β : Type} (r : Res α) (k : α → Sto → Res β) : Res β := match r with
  | .ok a S => k a S
  | .exc c fs S => .exc c fs S
  | .bad => .bad
def opt {α : Type} (o : Option α) (S : Sto) : Res α := match o with
  | some a => .ok a S
  | none => .bad

/-! no mutable thing within -/
mutual
def noMu : D → Bool
  | .mu _ => false
  | .tup ds => noMus ds
  | .lst ds => noMus ds
  | .dct kvs => noMuk kvs
  | .ins _ fs => noMuf fs
  | _ => true
def noMus : List D → Bool
  | [] => true
  | d :: ds => noMu d && noMus ds
def noMuk : List (Key × D) → Bool
  | [] => true
  | (_, d) :: ds => noMu d && noMuk ds
def noMuf : List (Str × D) → Bool
  | [] => true
  | (_, d) :: ds => noMu d && noMuf ds
end
/-- a mutable list or dict, as it stands -/
def dr (S : Sto) : D → D
  | .mu i => (match S[i]? with
    | some (.lst ds) => .lst ds
    | some (.dct kvs) => .dct kvs
    | some (.frz d) => d
    | _ => .mu i)
  | d => d
/-- a mutable thing that is handed on as it is, and never changed again -/
def frz1 (S : Sto) : D → D × Sto
  | .mu i => (match S[i]? with
    | some (.lst ds) => (.lst ds, S.set i (.frz (.lst ds)))
    | some (.dct kvs) => (.dct kvs, S.set i (.frz (.dct kvs)))
    | some (.frz d) => (d, S)
    | _ => (.mu i, S))
  | d => (d, S)
def frzs (S : Sto) : List D → List D × Sto
  | [] => ([], S)
  | d :: ds => ((frz1 S d).1 :: (frzs (frz1 S d).2 ds).1, (frzs (frz1 S d).2 ds).2)

def truth (S : Sto) (d : D) : Option Bool := match dr S d with
  | .non => some false
  | .bl b => some b
  | .int i => some (i != 0)
  | .str x => if x.length ≤ sizeLine then some (x.length != 0) else none
  | .tup ds => some (!ds.isEmpty)
  | .lst ds => some (!ds.isEmpty)
  | .dct kvs => some (!kvs.isEmpty)
  | _ => none

/-! ### equality of plain data -/
mutual
def py : D → Option PyData
  | .non => some .none
  | .bl b => some (.bool b)
  | .int i => some (.int i)
  | .str x => some (.str x)
  | .tup ds => (pys ds).map .tuple
  | .lst ds => (pys ds).map .list
  | _ => none
def pys : List D → Option (List PyData)
  | [] => some []
  | d :: ds => match py d with
    | some p => (match pys ds with
      | some ps => some (p :: ps)
      | none => none)
    | none => none
end
def pyS (S : Sto) (d : D) : Option PyData := match py (dr S d) with
  | some p => if SeqAt.shaped p = true then some p else none
  | none => none
def eqD (S : Sto) (x y : D) : Option Bool := match pyS S x with
  | some p => (match pyS S y with
    | some q => some (PyData.eqv p q)
    | none => none)
  | none => none

def mulOk (i j : Int) : Bool := decide (i.natAbs < 2 ^ 64) || decide (j.natAbs < 2 ^ 64) || decide (i.natAbs.log2 + j.natAbs.log2 < 1000000)
def divOk (j : Int) : Bool := decide (j ≠ 0) && decide (j.natAbs.log2 < 9000)

def keyD : D → Option Key
  | .int i => some (.inl i)
  | .str x => some (.inr x)
  | _ => none
def look {α : Type} (kvs : List (Key × α)) (k : Key) : Option α := (kvs.find? fun kv => decide (kv.1 = k)).map fun kv => kv.2
def putD {α : Type} (kvs : List (Key × α)) (k : Key) (v : α) : List (Key × α) := if (kvs.any fun kv => decide (kv.1 = k)) = true then kvs.map fun kv => if kv.1 = k then (kv.1, v) else kv else kvs ++ [(k, v)]
def mergeD {α : Type} (kvs more : List (Key × α)) : List (Key × α) := more.foldl (fun acc kv => putD acc kv.1 kv.2) kvs
def putF {α : Type} (f : Str) (v : α) : List (Str × α) → List (Str × α)
  | [] => [(f, v)]
  | p :: r => if p.1 = f then (f, v) :: r else p :: putF f v r

def bop (op : Operator) (S : Sto) (x y : D) : Option D := match op with
  | .Add => (match dr S x, dr S y with
    | .int i, .int j => some (.int (i + j))
    | .str a, .str b => if a.length + b.length ≤ sizeLine then some (.str (a ++ b)) else none
    | .lst a, .lst b => if a.length + b.length ≤ sizeLine then some (.lst (a ++ b)) else none
    | _, _ => none)
  | .Sub => (match x, y with
    | .int i, .int j => some (.int (i - j))
    | _, _ => none)
  | .Mult => (match y with
    | .int j => (match dr S x with
      | .int i => if mulOk i j = true then some (.int (i * j)) else none
      | .lst a => if decide (j.natAbs < 2 ^ 62) && decide (a.length * j.toNat ≤ sizeLine) then some (.lst (List.replicate j.toNat a).flatten) else none
      | _ => none)
    | _ => none)
  | .FloorDiv => (match x, y with
    | .int i, .int j => if divOk j = true then some (.int (i.fdiv j)) else none
    | _, _ => none)
  | .Mod => (match x, y with
    | .int i, .int j => if j = 0 then none else some (.int (i.fmod j))
    | _, _ => none)
  | .Pow => (match x, y with
    | .int i, .int j => if decide (0 ≤ j) && decide (j.natAbs ≤ 1000000) && decide (i.natAbs < 2 ^ 64) then some (.int (i ^ j.toNat)) else none
    | _, _ => none)
  | _ => none

/-- member of a sequence of plain data -/
def inD (S : Sto) (x y : D) : Option Bool := match pyS S x with
  | some p => (match pyS S y with
    | some (.tuple qs) => some (qs.any fun z => PyData.eqv z p)
    | some (.list qs) => some (qs.any fun z => PyData.eqv z p)
    | _ => none)
  | none => none

def cop (op : CmpOp) (S : Sto) (x y : D) : Option D := match op with
  | .Lt => (match x, y with
    | .int i, .int j => some (.bl (decide (i < j)))
    | _, _ => none)
  | .LtE => (match x, y with
    | .int i, .int j => some (.bl (decide (i ≤ j)))
    | _, _ => none)
  | .Gt => (match x, y with
    | .int i, .int j => some (.bl (decide (j < i)))
    | _, _ => none)
  | .GtE => (match x, y with
    | .int i, .int j => some (.bl (decide (j ≤ i)))
    | _, _ => none)
  | .Eq => (eqD S x y).map .bl
  | .NotEq => (eqD S x y).map fun b => .bl (!b)
  | .In => (inD S x y).map .bl
  | .NotIn => (inD S x y).map fun b => .bl (!b)
  | .Is => (match y with
    | .non => some (.bl (match x with | .non => true | _ => false))
    | _ => none)
  | .IsNot => (match y with
    | .non => some (.bl (match x with | .non => false | _ => true))
    | _ => none)

def ixD (S : Sto) (x y : D) : Option D := match dr S x with
  | .lst ds => (match y with
    | .int i => L2.atI ds i
    | _ => none)
  | .tup ds => (match y with
    | .int i => L2.atI ds i
    | _ => none)
  | .dct kvs => (match keyD y with
    | some z => look kvs z
    | none => none)
  | _ => none

/-- xs[:k], xs[k:], .. -/
def cutD {α : Type} (xs : List α) (lo hi : Option Int) : List α := (xs.drop (HT.sIx xs.length 0 lo)).take (HT.sIx xs.length xs.length hi - HT.sIx xs.length 0 lo)
def slD (S : Sto) (x : D) (lo hi : Option Int) : Option D := match dr S x with
  | .lst ds => some (.lst (cutD ds lo hi))
  | .scr ns => some (.lst (cutD (ns.map D.int) lo hi))
  | _ => none

/-! ### built-in functions -/
def biInt (ds : List D) : Option D := match ds with
  | [.int i] => some (.int i)
  | [.bl b] => some (.int (if b then 1 else 0))
  | _ => none
def biLen (S : Sto) (ds : List D) : Option D := match ds with
  | [d] => (match dr S d with
    | .lst xs => some (.int xs.length)
    | .tup xs => some (.int xs.length)
    | .scr ns => some (.int ns.length)
    | _ => none)
  | _ => none
def biAbs (ds : List D) : Option D := match ds with
  | [.int i] => some (.int (if i < 0 then -i else i))
  | _ => none
def biMin (ds : List D) : Option D := match ds with
  | [.int i, .int j] => some (.int (if j < i then j else i))
  | _ => none
def biMax (ds : List D) : Option D := match ds with
  | [.int i, .int j] => some (.int (if j > i then j else i))
  | _ => none
def biList (S : Sto) (ds : List D) : Option D := match ds with
  | [d] => (match dr S d with
    | .lst xs => some (.lst xs)
    | .tup xs => some (.lst xs)
    | _ => none)
  | _ => none
def biDivmod (ds : List D) : Option D := match ds with
  | [.int i, .int j] => if (decide (0 < j) && decide (j.natAbs.log2 < 9000)) = true then some (.tup [.int (i / j), .int (i % j)]) else none
  | _ => none
def bi (x : Str) (S : Sto) (ds : List D) : Option D :=
  if x = "int" then biInt ds
  else if x = "len" then biLen S ds
  else if x = "abs" then biAbs ds
  else if x = "min" then biMin ds
  else if x = "max" then biMax ds
  else if x = "list" then biList S ds
  else if x = "divmod" then biDivmod ds
  else none

/-! ### the program's names -/
inductive GV where
  | fn (np : Nat) (ds : List D)
  | cls (np : Nat) (ds : List D)
  | con (d : D)
structure Sc where
  N : List Str
  sc : Scope
  mv : List Str
abbrev Fk := Str × Option Str
abbrev Cf := Fk → List D → Sto → Res D

def ixOf (x : Str) : List Str → Option Nat
  | [] => none
  | y :: r => if y = x then some 0 else (ixOf x r).map (· + 1)
def slot (s : Sc) (x : Str) : Option Nat := if (x == ("__debug__" : Str) || x == ("__classdict__" : Str)) = true then none else match s.sc.names.lookup x with
  | some .local => ixOf x s.N
  | some .cell => ixOf x s.N
  | some .free => ixOf x s.N
  | _ => none
def slotW (s : Sc) (x : Str) : Option Nat := match s.sc.names.lookup x with
  | some .local => ixOf x s.N
  | some .cell => ixOf x s.N
  | _ => none
def isGlob (s : Sc) (x : Str) : Bool := match s.sc.names.lookup x with
  | some .globalImplicit => !(x == ("__debug__" : Str)) && !(x == ("__name__" : Str))
  | _ => false

/-! ### combinators -/
def eBad : DE := fun _ _ => .bad
def eC (d : D) : DE := fun _ S => .ok d S
def eVar (i : Nat) : DE := fun env S => match env[i]? with
  | some (some d) => .ok d S
  | _ => .bad
def eBin (f : Sto → D → D → Option D) (a b : DE) : DE := fun env S => (a env S).bind fun x S1 => (b env S1).bind fun y S2 => opt (f S2 x y) S2
def eNeg (a : DE) : DE := fun env S => (a env S).bind fun x S1 => match x with
  | .int i => .ok (.int (-i)) S1
  | _ => .bad
def eNot (a : DE) : DE := fun env S => (a env S).bind fun x S1 => (opt (truth S1 x) S1).bind fun b S2 => .ok (.bl (!b)) S2
def eAnd (a b : DE) : DE := fun env S => (a env S).bind fun x S1 => (opt (truth S1 x) S1).bind fun k S2 => if k = true then b env S2 else .ok x S2
def eOr (a b : DE) : DE := fun env S => (a env S).bind fun x S1 => (opt (truth S1 x) S1).bind fun k S2 => if k = true then .ok x S2 else b env S2
def eIf (t : DT) (a b : DE) : DE := fun env S => (t env S).bind fun k S1 => if k = true then a env S1 else b env S1
def tBad : DT := fun _ _ => .bad
def tOf (a : DE) : DT := fun env S => (a env S).bind fun x S1 => opt (truth S1 x) S1
def tNt (t : DT) : DT := fun env S => (t env S).bind fun k S1 => .ok (!k) S1
def tAn (t u : DT) : DT := fun env S => (t env S).bind fun k S1 => if k = true then u env S1 else .ok false S1
def tO (t u : DT) : DT := fun env S => (t env S).bind fun k S1 => if k = true then .ok true S1 else u env S1
def aNil : DA := fun _ S => .ok [] S
def aCons (a : DE) (r : DA) : DA := fun env S => (a env S).bind fun x S1 => (r env S1).bind fun xs S2 => .ok (x :: xs) S2
def eTup (r : DA) : DE := fun env S => (r env S).bind fun xs S1 => if xs.length ≤ sizeLine then .ok (.tup xs) S1 else .bad
def eLst (r : DA) : DE := fun env S => (r env S).bind fun xs S1 => if xs.length ≤ sizeLine then .ok (.lst xs) S1 else .bad
/-- the same, kept mutable -/
def mLst (r : DA) : DE := fun env S => (r env S).bind fun xs S1 => if (decide (xs.length ≤ sizeLine) && noMus xs) = true then .ok (.mu S1.length) (S1 ++ [.lst xs]) else .bad
def keysD : List D → List D → Option (List (Key × D))
  | [], [] => some []
  | k :: ks, v :: vs => match keyD k, keysD ks vs with
    | some z, some r => some ((z, v) :: r)
    | _, _ => none
  | _, _ => none
/-- the pairs of a display: key, value, key, value .. -/
def aPairs : List (DE × DE) → Ev → Sto → Res (List (D × D))
  | [], _, S => .ok [] S
  | (a, b) :: r, env, S => (a env S).bind fun x S1 => (b env S1).bind fun y S2 => (aPairs r env S2).bind fun ps S3 => .ok ((x, y) :: ps) S3
def keyed : List (D × D) → Option (List (Key × D))
  | [] => some []
  | (k, v) :: r => match keyD k with
    | some z => (match keyed r with
      | some q => some ((z, v) :: q)
      | none => none)
    | none => none
def eDct (ps : List (DE × DE)) : DE := fun env S => (aPairs ps env S).bind fun xs S1 => (opt (keyed xs) S1).bind fun kvs S2 => if kvs.length ≤ 15 then .ok (.dct (mergeD [] kvs)) S2 else .bad
def mDct (ps : List (DE × DE)) : DE := fun env S => (aPairs ps env S).bind fun xs S1 => (opt (keyed xs) S1).bind fun kvs S2 => if kvs.length ≤ 15 then (if noMuk (mergeD [] kvs) = true then .ok (.mu S2.length) (S2 ++ [.dct (mergeD [] kvs)]) else .bad) else .bad
def optI (o : Option DE) : Ev → Sto → Res (Option Int) := fun env S => match o with
  | none => .ok none S
  | some a => (a env S).bind fun x S1 => match x with
    | .int i => .ok (some i) S1
    | _ => .bad
def eSl (a : DE) (lo hi : Option DE) : DE := fun env S => (a env S).bind fun x S1 => (optI lo env S1).bind fun l S2 => (optI hi env S2).bind fun h S3 => opt (slD S3 x l h) S3
def fldD (ok : Str → Str → Bool) (S : Sto) (f : Str) (x : D) : Option D := match x with
  | .ins c fs => if ok c f = true then fs.lookup f else none
  | .mu i => (match S[i]? with
    | some (.ins c fs) => if ok c f = true then fs.lookup f else none
    | _ => none)
  | _ => none
def eFld (ok : Str → Str → Bool) (f : Str) (a : DE) : DE := fun env S => (a env S).bind fun x S1 => opt (fldD ok S1 f x) S1
def eBi (x : Str) (r : DA) : DE := fun env S => (r env S).bind fun xs S1 => opt (bi x S1 xs) S1
/-- missing arguments from the defaults -/
def fill (np : Nat) (ds xs : List D) : Option (List D) :=
  if xs.length ≤ np then (if np ≤ xs.length + ds.length then some (xs ++ ds.drop (ds.length - (np - xs.length))) else none) else none
def eCall (cf : Cf) (io : Bool) (k : Fk) (np : Nat) (ds : List D) (r : DA) : DE := fun env S => (r env S).bind fun xs S1 => (opt (fill np ds xs) S1).bind fun ys S2 =>
  if io = true then cf k ys S2 else cf k (frzs S2 ys).1 (frzs S2 ys).2
/-- a new instance, its __init__, then it stays as it is -/
def made (c : Str) (n : Nat) (r : Res D) : Res D := match r with
  | .ok .non S => (match S[n]? with
    | some (.ins c' fs) => if c' = c then .ok (.ins c fs) (S.take n) else .bad
    | _ => .bad)
  | _ => .bad
def eMake (cf : Cf) (c : Str) (np : Nat) (ds : List D) (r : DA) : DE := fun env S => (r env S).bind fun xs S1 => (opt (fill np ds xs) S1).bind fun ys S2 =>
  made c S2.length (cf (c, some "__init__") (.mu S2.length :: ys) (S2 ++ [.ins c []]))
def insOf (S : Sto) : D → Option (Str × List (Str × D))
  | .ins c fs => some (c, fs)
  | .mu i => (match S[i]? with
    | some (.ins c fs) => some (c, fs)
    | _ => none)
  | _ => none
/-- o.m(..) of an instance; mt: the class's method's parameters and defaults -/
def eMeth (cf : Cf) (io : Fk → Bool) (mt : Str → Str → Option (Nat × List D)) (m : Str) (a : DE) (r : DA) : DE := fun env S => (a env S).bind fun x S1 => match insOf S1 x with
  | some (c, fs) => (match fs.lookup m with
    | none => (match mt c m with
      | some (np, ds) => (r env S1).bind fun xs S2 => (opt (fill np ds xs) S2).bind fun ys S3 =>
        if io (c, some m) = true then cf (c, some m) (x :: ys) S3 else cf (c, some m) (x :: (frzs S3 ys).1) (frzs S3 ys).2
      | none => .bad)
    | some _ => .bad)
  | none => .bad
/-! isinstance -/
inductive Ty where
  | b (t : String) | o (c : Str)
def tyOf (S : Sto) (d : D) : Option Ty := match insOf S d with
  | some cf => some (.o cf.1)
  | none => (match dr S d with
    | .non => some (.b "NoneType")
    | .bl _ => some (.b "bool")
    | .int _ => some (.b "int")
    | .str _ => some (.b "str")
    | .tup _ => some (.b "tuple")
    | .lst _ => some (.b "list")
    | .dct _ => some (.b "dict")
    | _ => none)
def bT (t x : String) : Bool := t == x || (t == "bool" && x == "int")
/-- a built-in class by its name -/
def tyS (x : Str) : String := if x = "int" then "int" else if x = "bool" then "bool" else if x = "str" then "str" else if x = "tuple" then "tuple" else if x = "list" then "list" else if x = "dict" then "dict" else ""
def isT (own : Str → Bool) (t : Ty) (x : Str) : Bool := match t with
  | .b t => if own x = true then false else bT t (tyS x)
  | .o c => if own x = true then decide (c = x) else false
def isAny (own : Str → Bool) (t : Ty) : List Str → Bool
  | [] => false
  | x :: r => isT own t x || isAny own t r
def okTy (own : Str → Bool) : Ty → Bool
  | .b _ => true
  | .o c => own c
def eIsi (own : Str → Bool) (xs : List Str) (a : DE) : DE := fun env S => (a env S).bind fun d S1 => match tyOf S1 d with
  | some t => if okTy own t = true then .ok (.bl (isAny own t xs)) S1 else .bad
  | none => .bad

/-! ### statements -/
inductive Fl where
  | nx (env : Ev) | rt (d : D) | bk (env : Ev) | ct (env : Ev) | xc (c : Str) (fs : List (Str × D)) (env : Ev)
abbrev DS := Ev → Sto → Res Fl
/-- an exception of an expression, in a statement -/
def bindS {α : Type} (r : Res α) (env : Ev) (k : α → Sto → Res Fl) : Res Fl := match r with
  | .ok a S => k a S
  | .exc c fs S => .ok (.xc c fs env) S
  | .bad => .bad
def noX {α : Type} (r : Res α) : Res α := match r with
  | .ok a S => .ok a S
  | _ => .bad
def sBad : DS := fun _ _ => .bad
def sNext : DS := fun env S => .ok (.nx env) S
def sSeq (t u : DS) : DS := fun env S => match t env S with
  | .ok (.nx env') S1 => u env' S1
  | r => r
def sRet (a : DE) : DS := fun env S => bindS (a env S) env fun x S1 => .ok (.rt x) S1
def sRetN : DS := fun _ S => .ok (.rt .non) S
def sBreak : DS := fun env S => .ok (.bk env) S
def sCont : DS := fun env S => .ok (.ct env) S
def sIf (t : DT) (a b : DS) : DS := fun env S => bindS (t env S) env fun k S1 => if k = true then a env S1 else b env S1
def sDrop (a : DE) : DS := fun env S => bindS (a env S) env fun _ S1 => .ok (.nx env) S1
abbrev DG := D → Ev → Sto → Res Ev
def gBad : DG := fun _ _ _ => .bad
def gNm (i : Nat) : DG := fun d env S => .ok (env.set i (some d)) S
def gNil : List D → Ev → Sto → Res Ev := fun ds env S => match ds with
  | [] => .ok env S
  | _ => .bad
def gCons (g : DG) (r : List D → Ev → Sto → Res Ev) : List D → Ev → Sto → Res Ev := fun ds env S => match ds with
  | d :: ds => (g d env S).bind fun env' S1 => r ds env' S1
  | [] => .bad
def gTp (r : List D → Ev → Sto → Res Ev) : DG := fun d env S => match d with
  | .tup ds => r ds env S
  | _ => .bad
def setFld (ok : Str → Str → Bool) (S : Sto) (f : Str) (o v : D) : Option Sto := match o with
  | .mu i => (match S[i]? with
    | some (.ins c fs) => if (ok c f && decide (fs.length < 900) && noMu v) = true then some (S.set i (.ins c (putF f v fs))) else none
    | _ => none)
  | _ => none
def gFl (ok : Str → Str → Bool) (f : Str) (o : DE) : DG := fun d env S => (noX (o env S)).bind fun x S1 => match setFld ok S1 f x d with
  | some S2 => .ok env S2
  | none => .bad
def setIx (S : Sto) (o i v : D) : Option Sto := if noMu v = true then (match o with
  | .mu n => (match S[n]? with
    | some (.lst ds) => (match i with
      | .int j => (L2.ixN ds.length j).map fun z => S.set n (.lst (ds.set z v))
      | _ => none)
    | some (.dct kvs) => (match keyD i with
      | some z => if kvs.length < sizeLine then some (S.set n (.dct (putD kvs z v))) else none
      | none => none)
    | _ => none)
  | _ => none) else none
def gSb (o i : DE) : DG := fun d env S => (noX (o env S)).bind fun x S1 => (noX (i env S1)).bind fun y S2 => match setIx S2 x y d with
  | some S3 => .ok env S3
  | none => .bad
def sAsg (a : DE) (g : DG) : DS := fun env S => bindS (a env S) env fun x S1 => (g x env S1).bind fun env' S2 => .ok (.nx env') S2
def sAug (i : Nat) (f : Sto → D → D → Option D) (a : DE) : DS := fun env S => match env[i]? with
  | some (some x) => bindS (a env S) env fun y S1 => (opt (f S1 x y) S1).bind fun z S2 => .ok (.nx (env.set i (some z))) S2
  | _ => .bad
def iAdd (_ : Sto) (x y : D) : Option D := match x, y with
  | .int i, .int j => some (.int (i + j))
  | .str a, .str b => if a.length + b.length ≤ sizeLine then some (.str (a ++ b)) else none
  | _, _ => none
def iSub (_ : Sto) (x y : D) : Option D := match x, y with
  | .int i, .int j => some (.int (i - j))
  | _, _ => none
/-- x.append(e) -/
def appD (S : Sto) (x y : D) : Option Sto := match x with
  | .mu n => (match S[n]? with
    | some (.lst ds) => if (decide (ds.length < sizeLine) && noMu y) = true then some (S.set n (.lst (ds ++ [y]))) else none
    | _ => none)
  | _ => none
def isMuL (S : Sto) : D → Bool
  | .mu n => (match S[n]? with
    | some (.lst _) => true
    | _ => false)
  | _ => false
def sApp (o a : DE) : DS := fun env S => bindS (o env S) env fun x S1 => if isMuL S1 x = true then bindS (a env S1) env (fun y S2 => match appD S2 x y with
  | some S3 => .ok (.nx env) S3
  | none => .bad) else .bad
/-- a for over known items -/
def forD (g : DG) (b : DS) : List D → Ev → Sto → Res Fl
  | [], env, S => .ok (.nx env) S
  | d :: ds, env, S => (g d env S).bind fun env1 S1 => match b env1 S1 with
    | .ok (.nx env2) S2 => forD g b ds env2 S2
    | .ok (.ct env2) S2 => forD g b ds env2 S2
    | .ok (.bk env2) S2 => .ok (.nx env2) S2
    | r => r
def rangeD (lo hi : Int) : List D := (List.range (hi - lo).toNat).map fun (k : Nat) => .int (lo + (k : Int))
def whileD (t : DT) (b : DS) : Nat → Ev → Sto → Res Fl
  | 0, _, _ => .bad
  | n + 1, env, S => bindS (t env S) env fun k S1 => if k = true then (match b env S1 with
      | .ok (.nx env2) S2 => whileD t b n env2 S2
      | .ok (.ct env2) S2 => whileD t b n env2 S2
      | .ok (.bk env2) S2 => .ok (.nx env2) S2
      | r => r)
    else .ok (.nx env) S1

def eFrz (a : DE) : DE := fun env S => (a env S).bind fun x S1 => .ok (frz1 S1 x).1 (frz1 S1 x).2
/-- for target in e -/
def itemsD (d : D) : Option (List D) := match d with
  | .lst ds => some ds
  | .tup ds => some ds
  | _ => none
def sFor (a : DE) (g : DG) (b : DS) : DS := fun env S => bindS (eFrz a env S) env fun x S1 => match itemsD x with
  | some ds => forD g b ds env S1
  | none => .bad
def rgD (x y : D) : Option (Int × Int) := match x with
  | .int i => (match y with
    | .int j => if (decide (i.natAbs < 2 ^ 62) && decide (j.natAbs < 2 ^ 62)) = true then some (i, j) else none
    | _ => none)
  | _ => none
def sForR (lo hi : DE) (g : DG) (b : DS) : DS := fun env S => bindS (lo env S) env fun x S1 => bindS (hi env S1) env fun y S2 => match rgD x y with
  | some ij => forD g b (rangeD ij.1 ij.2) env S2
  | none => .bad
def enumD (k : Int) : List D → List D
  | [] => []
  | d :: ds => .tup [.int k, d] :: enumD (k + 1) ds
def sForE (a : DE) (g : DG) (b : DS) : DS := fun env S => bindS (eFrz a env S) env fun x S1 => match x with
  | .lst ds => forD g b (enumD 0 ds) env S1
  | _ => .bad

/-! ### the syntax tree -/
structure Pol where
  gl : Str → Option GV
  mt : Str → Str → Option (Nat × List D)
  own : Str → Bool
  io : Fk → Bool
  keep : Fk → Bool
  free : Str → Bool
  fld : Str → Str → Bool

def noStar : Expr → Bool
  | .Starred _ _ => false
  | _ => true
def isComp : Expr → Bool
  | .ListComp .. => true
  | .SetComp .. => true
  | .DictComp .. => true
  | _ => false
def isSet : Expr → Bool
  | .Set .. => true
  | _ => false
def isSlice : Expr → Bool
  | .Slice .. => true
  | _ => false
def isSup : Expr → Bool
  | .Call (.Name x _) [] [] _ => x == ("super" : Str)
  | _ => false
def isSeq : Expr → Bool
  | .Tuple .. => true
  | .List .. => true
  | _ => false
def isTup : Expr → Bool
  | .Tuple .. => true
  | _ => false
def isNon : Expr → Bool
  | .Constant .none _ _ => true
  | _ => false
/-- the names of isinstance's classes -/
def namesIn (s : Sc) : List Expr → Option (List Str)
  | [] => some []
  | .Name x _ :: r => if isGlob s x = true then (namesIn s r).map (x :: ·) else none
  | _ => none
def classesIn (s : Sc) : Expr → Option (List Str)
  | .Name x _ => if isGlob s x = true then some [x] else none
  | .Tuple es _ _ => namesIn s es
  | _ => none
def tyNames : List Str := ["int", "bool", "str", "tuple", "list", "dict"]
def biNames : List Str := ["int", "len", "abs", "min", "max", "list", "divmod"]

section
variable (p : Pol) (cf : Cf) (L : Nat)
def dConst : Const → DE
  | .int i => eC (.int i)
  | .bool b => eC (.bl b)
  | .none => eC .non
  | .str x => eC (.str x)
  | _ => eBad
def dName (s : Sc) (x : Str) : DE := match slot s x with
  | some i => eVar i
  | none => if isGlob s x = true then (match p.gl x with
      | some (.con d) => eC d
      | _ => eBad) else eBad
/-- f(..) by f's name -/
def dCallN (s : Sc) (x : Str) (args : List Expr) (r : DA) : DE := if isGlob s x = true then (match p.gl x with
    | some (.fn np ds) => eCall cf (p.io (x, none)) (x, none) np ds r
    | some (.cls np ds) => eMake cf x np ds r
    | some (.con _) => eBad
    | none => if p.free x && biNames.contains x && !args.isEmpty then eBi x r else eBad) else eBad
def dIsi (s : Sc) (a : DE) (c : Expr) : DE := if isGlob s "isinstance" && p.free "isinstance" then (match classesIn s c with
    | some xs => if xs.all (fun x => p.own x || (p.free x && tyNames.contains x)) && decide (xs.length ≤ 20) then eIsi p.own xs a else eBad
    | none => eBad) else eBad
/-! lists, by what their items are -/
def dArgs (f : Expr → DE) : List Expr → DA
  | [] => aNil
  | e :: es => if noStar e = true then aCons (f e) (dArgs f es) else fun _ _ => .bad
def dBo (f : Expr → DE) : BoolOp → List Expr → DE
  | _, [] => eBad
  | .And, e :: es => (match es with
    | [] => f e
    | _ :: _ => eAnd (f e) (dBo f .And es))
  | .Or, e :: es => (match es with
    | [] => f e
    | _ :: _ => eOr (f e) (dBo f .Or es))
def dTBo (f : Expr → DT) : BoolOp → List Expr → DT
  | _, [] => tBad
  | .And, e :: es => (match es with
    | [] => f e
    | _ :: _ => tAn (f e) (dTBo f .And es))
  | .Or, e :: es => (match es with
    | [] => f e
    | _ :: _ => tO (f e) (dTBo f .Or es))
def dPr (f : Expr → DE) : List (Option Expr) → List Expr → List (DE × DE)
  | some k :: ks, v :: vs => (f k, f v) :: dPr f ks vs
  | _, _ => []
def dictOk : List (Option Expr) → List Expr → Bool
  | [], [] => true
  | some _ :: ks, _ :: vs => dictOk ks vs
  | _, _ => false
mutual
def dE : Nat → Sc → Expr → DE
  | 0, _, _ => eBad
  | n + 1, s, e => match e with
    | .Constant c _ _ => dConst c
    | .Name x _ => dName p s x
    | .BinOp a op b _ => eBin (bop op) (dE n s a) (dE n s b)
    | .UnaryOp op a _ => (match op with
      | .USub => eNeg (dE n s a)
      | .Not => eNot (dE n s a)
      | _ => eBad)
    | .BoolOp op es _ => dBo (dE n s) op es
    | .Compare a ops bs _ => (match ops, bs with
      | [op], [b] => if isSet b = true then eBad else eBin (cop op) (dE n s a) (dE n s b)
      | _, _ => eBad)
    | .IfExp c a b _ => eIf (dT n s c) (dE n s a) (dE n s b)
    | .Tuple es _ _ => eTup (dArgs (dE n s) es)
    | .List es _ => eLst (dArgs (dE n s) es)
    | .Dict ks vs _ => if (dictOk ks vs && decide (ks.length ≤ 15)) = true then eDct (dPr (dE n s) ks vs) else eBad
    | .Subscript a b _ => (match b with
      | .Slice lo hi st _ => (match st with
        | none => eSl (dE n s a) (lo.map (dE n s)) (hi.map (dE n s))
        | some _ => eBad)
      | b => eBin ixD (dE n s a) (dE n s b))
    | .Attribute a f _ => if isSup a = true then eBad else eFld p.fld f (dE n s a)
    | .Call f args kws q2 => (match kws with
      | [] => if args.all noStar = true then (match f with
        | .Name x _ => (match args with
          | [a, c] => if x = "isinstance" then dIsi p s (dE n s a) c else dCallN p cf s x args (dArgs (dE n s) args)
          | _ => dCallN p cf s x args (dArgs (dE n s) args))
        | .Attribute o m q1 => if (!isSup o && (q1.endLine == q2.line) && decide (args.length < 29)) = true then eMeth cf p.io p.mt m (dE n s o) (dArgs (dE n s) args) else eBad
        | _ => eBad) else eBad
      | _ => eBad)
    | _ => eBad
def dT : Nat → Sc → Expr → DT
  | 0, _, _ => tBad
  | n + 1, s, e => match e with
    | .UnaryOp op a q => (match op with
      | .Not => tNt (dT n s a)
      | op => tOf (dE n s (.UnaryOp op a q)))
    | .BoolOp op es _ => dTBo (dT n s) op es
    | .IfExp .. => tBad
    | .Compare a ops bs _ => (match ops, bs with
      | [op], [b] => if isSet b = true then tBad else tOf (eBin (cop op) (dE n s a) (dE n s b))
      | _, _ => tBad)
    | e => tOf (dE n s e)
end
/-- a value that is stored under x: a display stays mutable where x is changed -/
def dM (n : Nat) (s : Sc) (mk : Bool) (e : Expr) : DE := if mk = true then (match e with
    | .List es _ => mLst (dArgs (dE p cf n s) es)
    | .Dict ks vs _ => if (dictOk ks vs && decide (ks.length ≤ 15)) = true then mDct (dPr (dE p cf n s) ks vs) else eBad
    | e => dE p cf n s e) else dE p cf n s e
def isMv (s : Sc) : Expr → Bool
  | .Name x _ => s.mv.contains x
  | _ => false
def dMs (n : Nat) (s : Sc) : List Expr → List Expr → DA
  | [], [] => aNil
  | t :: ts, e :: es => if noStar e = true then aCons (dM p cf n s (isMv s t) e) (dMs n s ts es) else fun _ _ => .bad
  | _, _ => fun _ _ => .bad
def dGl (f : Expr → DG) : List Expr → List D → Ev → Sto → Res Ev
  | [] => gNil
  | e :: es => if noStar e = true then gCons (f e) (dGl f es) else fun _ _ _ => .bad
def dG : Nat → Sc → Expr → DG
  | 0, _, _ => gBad
  | n + 1, s, e => match e with
    | .Name x _ => (match slotW s x with
      | some i => gNm i
      | none => gBad)
    | .Tuple es _ _ => if es.all noStar = true then gTp (dGl (dG n s) es) else gBad
    | .Attribute o f _ => gFl p.fld f (dE p cf n s o)
    | .Subscript o i _ => if isSlice i = true then gBad else gSb (dE p cf n s o) (dE p cf n s i)
    | _ => gBad
/-- how a, b = x, y is stored: plainly, or by the names from the right; none: not carried -/
def isStarE : Expr → Bool
  | .Starred .. => true
  | _ => false
def nameAt (sc : Scope) (line : Nat) : Expr → Option Str
  | .Name id pos => if (sc.names.lookup id == some .local && pos.line == line) = true then some id else none
  | _ => none
def swapD (sc : Scope) (ts vs : List Expr) : Option (Option (List Str)) :=
  if (!(ts.length == 2 || ts.length == 3) || vs.length != ts.length) = true then some none
  else if vs.any isStarE = true then some none
  else if ((ts.filterMap (nameAt sc ((ts.head?.map (·.pos.line)).getD 0))).length != ts.length || (ts.filterMap (nameAt sc ((ts.head?.map (·.pos.line)).getD 0))).eraseDups.length != (ts.filterMap (nameAt sc ((ts.head?.map (·.pos.line)).getD 0))).length) = true then some none
  else if vs.all (foldedForSure 8) = true then some none
  else if vs.all (constantsAlone 8) = true then none
  else some (some (ts.filterMap (nameAt sc ((ts.head?.map (·.pos.line)).getD 0))))
def dFor (n : Nat) (s : Sc) (t e : Expr) (b : DS) : DS := match e with
  | .Call f args kws q2 => (match kws with
    | [] => (match f with
      | .Name x q1 => if x = "range" then (if (isGlob s x && p.free x) = true then (match args with
          | [d] => if noStar d = true then sForR (eC (.int 0)) (dE p cf n s d) (dG p cf n s t) b else sBad
          | [d, c] => if (noStar d && noStar c) = true then sForR (dE p cf n s d) (dE p cf n s c) (dG p cf n s t) b else sBad
          | _ => sBad) else sBad)
        else if x = "enumerate" then (if (isGlob s x && p.free x && isTup t) = true then (match args with
          | [d] => if noStar d = true then sForE (dE p cf n s d) (dG p cf n s t) b else sBad
          | _ => sBad) else sBad)
        else sFor (dE p cf n s (.Call f args kws q2)) (dG p cf n s t) b
      | f => sFor (dE p cf n s (.Call f args kws q2)) (dG p cf n s t) b)
    | kws => sFor (dE p cf n s (.Call f args kws q2)) (dG p cf n s t) b)
  | e => if isSet e = true then sBad else sFor (dE p cf n s e) (dG p cf n s t) b
def dBlk (f : Stmt → DS) : List Stmt → DS
  | [] => sNext
  | st :: r => sSeq (f st) (dBlk f r)
def dExpr (n : Nat) (s : Sc) (e : Expr) : DS := match e with
  | .Call f args kws q2 => (match f with
    | .Attribute o m q1 => if m = "append" then (match args, kws with
        | [a], [] => if (isSup o || !noStar a || !(q1.endLine == q2.line)) = true then sBad else sApp (dE p cf n s o) (dE p cf n s a)
        | _, _ => sBad)
      else sDrop (dE p cf n s (.Call (.Attribute o m q1) args kws q2))
    | f => sDrop (dE p cf n s (.Call f args kws q2)))
  | e => if isComp e = true then sBad else sDrop (dE p cf n s e)
/-- t = e, one target -/
def dAsg (n : Nat) (s : Sc) (t e : Expr) : DS := if isComp e = true then sBad else match t with
  | .Name x _ => (match slotW s x with
    | some i => sAsg (dM p cf n s (s.mv.contains x) e) (gNm i)
    | none => sBad)
  | .Tuple ts q1 q2 => (match e with
    | .Tuple es _ _ => (match swapD s.sc ts es with
      | some o => if (decide (2 ≤ n) && (o.getD []).all fun x => (ixOf x s.N).isSome) = true then sAsg (eTup (dMs p cf n s ts es)) (dG p cf n s (.Tuple ts q1 q2)) else sBad
      | none => sBad)
    | e => sAsg (dE p cf n s e) (dG p cf n s (.Tuple ts q1 q2)))
  | .List _ _ => sBad
  | .Starred _ _ => sBad
  | t => sAsg (dE p cf n s e) (dG p cf n s t)
def dS : Nat → Sc → Stmt → DS
  | 0, _, _ => sBad
  | n + 1, s, st => match st with
    | .Pass _ => sNext
    | .Break _ => sBreak
    | .Continue _ => sCont
    | .Return e _ => (match e with
      | none => sRetN
      | some e => sRet (dM p cf n s (s.mv.contains "return") e))
    | .If c a b _ => sIf (dT p cf n s c) (dBlk (dS n s) a) (dBlk (dS n s) b)
    | .Expr e _ => dExpr p cf n s e
    | .Assign ts e _ => (match ts with
      | [t] => dAsg p cf n s t e
      | _ => sBad)
    | .AugAssign t op e _ => (match t with
      | .Name x _ => (match slotW s x with
        | some i => (match op with
          | .Add => sAug i iAdd (dE p cf n s e)
          | .Sub => sAug i iSub (dE p cf n s e)
          | _ => sBad)
        | none => sBad)
      | _ => sBad)
    | .For t e b o _ => (match o with
      | [] => dFor p cf n s t e (dBlk (dS n s) b)
      | _ => sBad)
    | .While c b o _ => (match o with
      | [] => whileD (dT p cf n s c) (dBlk (dS n s) b) L
      | _ => sBad)
    | _ => sBad
end
end Pv

set_option Elab.async false
set_option linter.all false
set_option maxRecDepth 100000
set_option maxHeartbeats 1000000
/-! Pv, part B: how plain values stand in the abstract heap. -/
namespace Pv
open PySem L2
open PySem.W (Frag)

structure G where
  F : Hp
  k : Hp
  a : List Addr
structure G.Le (g g' : G) : Prop where
  F : ∀ a o, g.F a = some o → g'.F a = some o
  k : ∀ a o, g.k a = some o → g'.k a = some o
  a : ∀ (i : Nat) (x : Addr), g.a[i]? = some x → g'.a[i]? = some x
theorem G.Le.refl (g : G) : G.Le g g := ⟨fun _ _ h => h, fun _ _ h => h, fun _ _ h => h⟩
theorem G.Le.trans {g g' g'' : G} (h : G.Le g g') (h' : G.Le g' g'') : G.Le g g'' := ⟨fun a o e => h'.F a o (h.F a o e), fun a o e => h'.k a o (h.k a o e), fun i x e => h'.a i x (h.a i x e)⟩

/-- what is known of a class of the program -/
structure ClsOk (K : Frag) (c : Str) : Prop where
  cl : Cls K (He.ga K c)
  cn : PySem.W.findIn K (.ref (He.ga K c)) "__class__" = some (some (.builtin "object.__class__"))
  sp : PySem.W.specialIn K (.builtin "object.__class__") "__get__" = some (some (.builtin "getset_descriptor.__get__"))
  tk : PySem.W.takesIn K (.builtin "object.__class__") = some true
  mr : PySem.W.mroIn K (He.ga K c) (.type "object") = some true
section
variable (K : Frag)
mutual
inductive Rp (g : G) : D → V → Prop
  | non : Rp g .non .non
  | bl (b : Bool) : Rp g (.bl b) (.bl b)
  | int (i : Int) : Rp g (.int i) (.int i)
  | str (x : Str) : Rp g (.str x) (.str x)
  | scr {a : Addr} {ns : List Int} : SqL K g.F a (ns.map V.int) → Rp g (.scr ns) (.ref a)
  | tup {a : Addr} {vs : List V} {ds : List D} : SqT K g.F a vs → Rps g ds vs → Rp g (.tup ds) (.ref a)
  | lst {a : Addr} {vs : List V} {ds : List D} : g.F a = some (.lst vs) → Rps g ds vs → Rp g (.lst ds) (.ref a)
  | dct {a : Addr} {kvs : List (Key × D)} {kws : List (L2.Key × V)} : g.F a = some (.dK kws) → Rpk g kvs kws → Rp g (.dct kvs) (.ref a)
  | ins {a dx : Addr} {c : Str} {fs : List (Str × D)} {gs : List (Str × V)} : g.F a = some (.ins (He.ga K c) dx gs) → ClsOk K c → Rpf g fs gs → Rp g (.ins c fs) (.ref a)
  | mu {a : Addr} {i : Nat} : g.a[i]? = some a → Rp g (.mu i) (.ref a)
inductive Rps (g : G) : List D → List V → Prop
  | nil : Rps g [] []
  | cons {d : D} {v : V} {ds : List D} {vs : List V} : Rp g d v → Rps g ds vs → Rps g (d :: ds) (v :: vs)
inductive Rpk (g : G) : List (Key × D) → List (L2.Key × V) → Prop
  | nil : Rpk g [] []
  | cons {k : Key} {d : D} {v : V} {ds : List (Key × D)} {vs : List (L2.Key × V)} : Rp g d v → Rpk g ds vs → Rpk g ((k, d) :: ds) ((k, v) :: vs)
inductive Rpf (g : G) : List (Str × D) → List (Str × V) → Prop
  | nil : Rpf g [] []
  | cons {k : Str} {d : D} {v : V} {ds : List (Str × D)} {vs : List (Str × V)} : Rp g d v → Rpf g ds vs → Rpf g ((k, d) :: ds) ((k, v) :: vs)
end
end
section
variable {K : Frag} {g g' : G}
theorem rd_mono {F F' : Hp} (h : ∀ a o, F a = some o → F' a = some o) {a : Addr} {u : HO} (r : Rd F a u) : Rd F' a u := by
  rcases r with r | ⟨o, r⟩
  · exact .inl (h _ _ r)
  · exact .inr ⟨o, h _ _ r⟩
theorem sqT_mono {F F' : Hp} (h : ∀ a o, F a = some o → F' a = some o) {a : Addr} {xs : List V} (r : SqT K F a xs) : SqT K F' a xs := by
  rcases r with r | r
  · exact .inl (rd_mono h r)
  · exact .inr r
theorem sqL_mono {F F' : Hp} (h : ∀ a o, F a = some o → F' a = some o) {a : Addr} {xs : List V} (r : SqL K F a xs) : SqL K F' a xs := by
  rcases r with r | r
  · exact .inl (rd_mono h r)
  · exact .inr r
mutual
theorem Rp.moF (hF : ∀ a o, g.F a = some o → g'.F a = some o) (ha : ∀ (i : Nat) (x : Addr), g.a[i]? = some x → g'.a[i]? = some x) : ∀ {d : D} {v : V}, Rp K g d v → Rp K g' d v
  | _, _, .non => .non
  | _, _, .bl b => .bl b
  | _, _, .int i => .int i
  | _, _, .str x => .str x
  | _, _, .scr h => .scr (sqL_mono hF h)
  | _, _, .tup h r => .tup (sqT_mono hF h) (Rps.moF hF ha r)
  | _, _, .lst h r => .lst (hF _ _ h) (Rps.moF hF ha r)
  | _, _, .dct h r => .dct (hF _ _ h) (Rpk.moF hF ha r)
  | _, _, .ins h c r => .ins (hF _ _ h) c (Rpf.moF hF ha r)
  | _, _, .mu h => .mu (ha _ _ h)
theorem Rps.moF (hF : ∀ a o, g.F a = some o → g'.F a = some o) (ha : ∀ (i : Nat) (x : Addr), g.a[i]? = some x → g'.a[i]? = some x) : ∀ {ds : List D} {vs : List V}, Rps K g ds vs → Rps K g' ds vs
  | _, _, .nil => .nil
  | _, _, .cons h r => .cons (Rp.moF hF ha h) (Rps.moF hF ha r)
theorem Rpk.moF (hF : ∀ a o, g.F a = some o → g'.F a = some o) (ha : ∀ (i : Nat) (x : Addr), g.a[i]? = some x → g'.a[i]? = some x) : ∀ {ds : List (Key × D)} {vs : List (L2.Key × V)}, Rpk K g ds vs → Rpk K g' ds vs
  | _, _, .nil => .nil
  | _, _, .cons h r => .cons (Rp.moF hF ha h) (Rpk.moF hF ha r)
theorem Rpf.moF (hF : ∀ a o, g.F a = some o → g'.F a = some o) (ha : ∀ (i : Nat) (x : Addr), g.a[i]? = some x → g'.a[i]? = some x) : ∀ {ds : List (Str × D)} {vs : List (Str × V)}, Rpf K g ds vs → Rpf K g' ds vs
  | _, _, .nil => .nil
  | _, _, .cons h r => .cons (Rp.moF hF ha h) (Rpf.moF hF ha r)
end
theorem Rp.mono (l : G.Le g g') {d : D} {v : V} (r : Rp K g d v) : Rp K g' d v := r.moF l.F l.a
theorem Rps.mono (l : G.Le g g') {d : List D} {v : List V} (r : Rps K g d v) : Rps K g' d v := r.moF l.F l.a
theorem Rpk.mono (l : G.Le g g') {d : List (Key × D)} {v : List (L2.Key × V)} (r : Rpk K g d v) : Rpk K g' d v := r.moF l.F l.a
theorem Rpf.mono (l : G.Le g g') {d : List (Str × D)} {v : List (Str × V)} (r : Rpf K g d v) : Rpf K g' d v := r.moF l.F l.a
theorem Rps.length : ∀ {ds : List D} {vs : List V}, Rps K g ds vs → vs.length = ds.length
  | _, _, .nil => rfl
  | _, _, .cons _ r => congrArg Nat.succ (Rps.length r)
theorem Rpk.length : ∀ {ds : List (Key × D)} {vs : List (L2.Key × V)}, Rpk K g ds vs → vs.length = ds.length
  | _, _, .nil => rfl
  | _, _, .cons _ r => congrArg Nat.succ (Rpk.length r)
theorem Rpf.length : ∀ {ds : List (Str × D)} {vs : List (Str × V)}, Rpf K g ds vs → vs.length = ds.length
  | _, _, .nil => rfl
  | _, _, .cons _ r => congrArg Nat.succ (Rpf.length r)
theorem Rps.get : ∀ {ds : List D} {vs : List V} {i : Nat} {d : D}, Rps K g ds vs → ds[i]? = some d → ∃ v, vs[i]? = some v ∧ Rp K g d v
  | _, _, _, _, .nil, e => by simp at e
  | _, _, 0, _, .cons h _, e => by simp at e; subst e; exact ⟨_, rfl, h⟩
  | _, _, i + 1, d, .cons _ r, e => by
    obtain ⟨v, h1, h2⟩ := Rps.get (i := i) (d := d) r (by simpa using e)
    exact ⟨v, by simpa using h1, h2⟩
theorem Rps.append : ∀ {ds es : List D} {vs ws : List V}, Rps K g ds vs → Rps K g es ws → Rps K g (ds ++ es) (vs ++ ws)
  | _, _, _, _, .nil, s => s
  | _, _, _, _, .cons h r, s => .cons h (Rps.append r s)
theorem Rps.set {d : D} {v : V} (h : Rp K g d v) : ∀ {ds : List D} {vs : List V} (i : Nat), Rps K g ds vs → Rps K g (ds.set i d) (vs.set i v)
  | _, _, _, .nil => .nil
  | _, _, 0, .cons _ r => .cons h r
  | _, _, i + 1, .cons q r => .cons q (Rps.set h i r)
theorem Rps.take : ∀ {ds : List D} {vs : List V} (n : Nat), Rps K g ds vs → Rps K g (ds.take n) (vs.take n)
  | _, _, 0, _ => .nil
  | _, _, _ + 1, .nil => .nil
  | _, _, n + 1, .cons h r => .cons h (Rps.take n r)
theorem Rps.drop : ∀ {ds : List D} {vs : List V} (n : Nat), Rps K g ds vs → Rps K g (ds.drop n) (vs.drop n)
  | _, _, 0, r => r
  | _, _, _ + 1, .nil => .nil
  | _, _, n + 1, .cons _ r => Rps.drop n r
theorem Rps.flat {ds : List D} {vs : List V} (r : Rps K g ds vs) : ∀ n : Nat, Rps K g (List.replicate n ds).flatten (List.replicate n vs).flatten
  | 0 => .nil
  | n + 1 => by
    rw [List.replicate_succ, List.replicate_succ, List.flatten_cons, List.flatten_cons]
    exact r.append (Rps.flat r n)
theorem Rps.atI {ds : List D} {vs : List V} (r : Rps K g ds vs) {i : Int} {d : D} (e : L2.atI ds i = some d) : ∃ v, L2.atI vs i = some v ∧ Rp K g d v := by
  unfold L2.atI at e ⊢
  rw [r.length]
  cases q : L2.ixN ds.length i with
  | none => rw [q] at e; cases e
  | some j =>
    rw [q] at e
    exact r.get e
theorem Rps.ints : ∀ (ns : List Int), Rps K g (ns.map D.int) (ns.map V.int)
  | [] => .nil
  | n :: r => .cons (.int n) (Rps.ints r)
theorem Rpk.look : ∀ {ds : List (Key × D)} {vs : List (L2.Key × V)} {z : Key} {d : D}, Rpk K g ds vs → Pv.look ds z = some d → ∃ v, valV vs z = some v ∧ Rp K g d v
  | _, _, _, _, .nil, e => by cases e
  | _, _, z, d, .cons (k := k) (d := d0) (v := v0) (ds := ds) (vs := vs) h r, e => by
    by_cases c : k = z
    · have e1 : Pv.look ((k, d0) :: ds) z = some d0 := by simp [Pv.look, c]
      rw [e1] at e
      cases e
      exact ⟨v0, by simp [L2.valV, c], h⟩
    · have e1 : Pv.look ((k, d0) :: ds) z = Pv.look ds z := by simp [Pv.look, c]
      rw [e1] at e
      obtain ⟨v, h1, h2⟩ := Rpk.look r e
      refine ⟨v, ?_, h2⟩
      have e2 : L2.valV ((k, v0) :: vs) z = L2.valV vs z := by simp [L2.valV, c]
      rw [e2]
      exact h1
theorem Rpk.keys : ∀ {ds : List (Key × D)} {vs : List (L2.Key × V)}, Rpk K g ds vs → vs.map (·.1) = ds.map (·.1)
  | _, _, .nil => rfl
  | _, _, .cons _ r => by rw [List.map_cons, List.map_cons, Rpk.keys r]
theorem Rpk.any {ds : List (Key × D)} {vs : List (L2.Key × V)} (r : Rpk K g ds vs) (z : Key) : (vs.any fun kv => decide (kv.1 = z)) = (ds.any fun kv => decide (kv.1 = z)) := by
  have h1 : (vs.any fun kv => decide (kv.1 = z)) = ((vs.map (·.1)).any fun k => decide (k = z)) := by rw [List.any_map]; rfl
  have h2 : (ds.any fun kv => decide (kv.1 = z)) = ((ds.map (·.1)).any fun k => decide (k = z)) := by rw [List.any_map]; rfl
  rw [h1, h2, r.keys]
theorem Rpk.mapPut {d : D} {v : V} (h : Rp K g d v) (z : Key) : ∀ {ds : List (Key × D)} {vs : List (L2.Key × V)}, Rpk K g ds vs →
    Rpk K g (ds.map fun kv => if kv.1 = z then (kv.1, d) else kv) (vs.map fun kv => if kv.1 = z then (kv.1, v) else kv)
  | _, _, .nil => .nil
  | _, _, .cons (k := k) (d := d0) (v := v0) q r => by
    rw [List.map_cons, List.map_cons]
    by_cases c : k = z
    · rw [if_pos c, if_pos c]
      exact .cons h (Rpk.mapPut h z r)
    · rw [if_neg c, if_neg c]
      exact .cons q (Rpk.mapPut h z r)
theorem Rpk.append : ∀ {ds es : List (Key × D)} {vs ws : List (L2.Key × V)}, Rpk K g ds vs → Rpk K g es ws → Rpk K g (ds ++ es) (vs ++ ws)
  | _, _, _, _, .nil, s => s
  | _, _, _, _, .cons h r, s => .cons h (Rpk.append r s)
theorem Rpk.put {ds : List (Key × D)} {vs : List (L2.Key × V)} {d : D} {v : V} (r : Rpk K g ds vs) (h : Rp K g d v) (z : Key) : Rpk K g (putD ds z d) (putK vs z v) := by
  unfold putD L2.putK
  rw [r.any z]
  split
  · exact r.mapPut h z
  · exact r.append (.cons h .nil)
theorem Rpk.merge : ∀ {es : List (Key × D)} {ws : List (L2.Key × V)} {ds : List (Key × D)} {vs : List (L2.Key × V)}, Rpk K g es ws → Rpk K g ds vs → Rpk K g (mergeD ds es) (mergeK vs ws)
  | _, _, _, _, .nil, s => s
  | (k, d) :: es, (_, v) :: ws, ds, vs, .cons h r, s => by
    show Rpk K g (mergeD (putD ds k d) es) (mergeK (putK vs k v) ws)
    exact Rpk.merge r (s.put h k)
theorem Rpf.look : ∀ {ds : List (Str × D)} {vs : List (Str × V)} {z : Str} {d : D}, Rpf K g ds vs → ds.lookup z = some d → ∃ v, vs.lookup z = some v ∧ Rp K g d v
  | _, _, _, _, .nil, e => by cases e
  | _, _, z, d, .cons (k := k) (d := d0) (v := v0) (ds := ds) (vs := vs) h r, e => by
    by_cases c : z = k
    · subst c
      simp at e
      subst e
      exact ⟨v0, by simp, h⟩
    · have b : (z == k) = false := by simpa using c
      have e1 : ((k, d0) :: ds).lookup z = ds.lookup z := by simp [List.lookup, b]
      rw [e1] at e
      obtain ⟨v, h1, h2⟩ := Rpf.look r e
      refine ⟨v, ?_, h2⟩
      simp [List.lookup, b, h1]
theorem Rpf.none : ∀ {ds : List (Str × D)} {vs : List (Str × V)} {z : Str}, Rpf K g ds vs → ds.lookup z = Option.none → vs.lookup z = Option.none
  | _, _, _, .nil, _ => rfl
  | _, _, z, .cons (k := k) (d := d0) (v := v0) (ds := ds) (vs := vs) h r, e => by
    by_cases c : z = k
    · subst c; simp at e
    · have b : (z == k) = false := by simpa using c
      have e1 : ((k, d0) :: ds).lookup z = ds.lookup z := by simp [List.lookup, b]
      rw [e1] at e
      simp [List.lookup, b, Rpf.none r e]
theorem Rpf.put {d : D} {v : V} (h : Rp K g d v) (f : Str) : ∀ {ds : List (Str × D)} {vs : List (Str × V)}, Rpf K g ds vs → Rpf K g (Pv.putF f d ds) (L2.putF f v vs)
  | _, _, .nil => .cons h .nil
  | _, _, .cons (k := k) (d := d0) (v := v0) (ds := ds) (vs := vs) q r => by
    show Rpf K g (if k = f then (f, d) :: ds else (k, d0) :: Pv.putF f d ds) (if k = f then (k, v) :: vs else (k, v0) :: L2.putF f v vs)
    by_cases c : k = f
    · rw [if_pos c, if_pos c, ← c]
      exact .cons h r
    · rw [if_neg c, if_neg c]
      exact .cons q (Rpf.put h f r)
theorem putF_len {α : Type} (f : Str) (v : α) : ∀ fs : List (Str × α), (Pv.putF f v fs).length ≤ fs.length + 1
  | [] => Nat.le_refl _
  | p :: r => by
    show (if p.1 = f then (f, v) :: r else p :: Pv.putF f v r).length ≤ _
    split
    · simp
    · have := putF_len f v r
      simp only [List.length_cons]
      omega
end

/-! ### without mutable things within -/
section
variable {K : Frag} {g g' : G}
mutual
theorem Rp.noMu (hF : ∀ a o, g.F a = some o → g'.F a = some o) : ∀ {d : D} {v : V}, Rp K g d v → Pv.noMu d = true → Rp K g' d v
  | _, _, .non, _ => .non
  | _, _, .bl b, _ => .bl b
  | _, _, .int i, _ => .int i
  | _, _, .str x, _ => .str x
  | _, _, .scr h, _ => .scr (sqL_mono hF h)
  | .tup ds, _, .tup h r, n => .tup (sqT_mono hF h) (Rps.noMu hF r (show noMus ds = true from n))
  | .lst ds, _, .lst h r, n => .lst (hF _ _ h) (Rps.noMu hF r (show noMus ds = true from n))
  | .dct ds, _, .dct h r, n => .dct (hF _ _ h) (Rpk.noMu hF r (show noMuk ds = true from n))
  | .ins c ds, _, .ins h k r, n => .ins (hF _ _ h) k (Rpf.noMu hF r (show noMuf ds = true from n))
  | _, _, .mu h, n => by cases (show false = true from n)
theorem Rps.noMu (hF : ∀ a o, g.F a = some o → g'.F a = some o) : ∀ {ds : List D} {vs : List V}, Rps K g ds vs → noMus ds = true → Rps K g' ds vs
  | _, _, .nil, _ => .nil
  | d :: ds, _, .cons h r, n => by
    obtain ⟨n1, n2⟩ := Bool.and_eq_true_iff.mp (show (Pv.noMu d && noMus ds) = true from n)
    exact .cons (Rp.noMu hF h n1) (Rps.noMu hF r n2)
theorem Rpk.noMu (hF : ∀ a o, g.F a = some o → g'.F a = some o) : ∀ {ds : List (Key × D)} {vs : List (L2.Key × V)}, Rpk K g ds vs → noMuk ds = true → Rpk K g' ds vs
  | _, _, .nil, _ => .nil
  | (_, d) :: ds, _, .cons h r, n => by
    obtain ⟨n1, n2⟩ := Bool.and_eq_true_iff.mp (show (Pv.noMu d && noMuk ds) = true from n)
    exact .cons (Rp.noMu hF h n1) (Rpk.noMu hF r n2)
theorem Rpf.noMu (hF : ∀ a o, g.F a = some o → g'.F a = some o) : ∀ {ds : List (Str × D)} {vs : List (Str × V)}, Rpf K g ds vs → noMuf ds = true → Rpf K g' ds vs
  | _, _, .nil, _ => .nil
  | (_, d) :: ds, _, .cons h r, n => by
    obtain ⟨n1, n2⟩ := Bool.and_eq_true_iff.mp (show (Pv.noMu d && noMuf ds) = true from n)
    exact .cons (Rp.noMu hF h n1) (Rpf.noMu hF r n2)
end
theorem noMus_append : ∀ (a b : List D), noMus (a ++ b) = (noMus a && noMus b)
  | [], b => rfl
  | d :: a, b => by
    show (noMu d && noMus (a ++ b)) = ((noMu d && noMus a) && noMus b)
    rw [noMus_append a b, Bool.and_assoc]
theorem noMus_set {d : D} (h : noMu d = true) : ∀ (ds : List D) (i : Nat), noMus ds = true → noMus (ds.set i d) = true
  | [], _, _ => rfl
  | e :: ds, 0, n => by
    obtain ⟨n1, n2⟩ := Bool.and_eq_true_iff.mp (show (noMu e && noMus ds) = true from n)
    exact Bool.and_eq_true_iff.mpr ⟨h, n2⟩
  | e :: ds, i + 1, n => by
    obtain ⟨n1, n2⟩ := Bool.and_eq_true_iff.mp (show (noMu e && noMus ds) = true from n)
    exact Bool.and_eq_true_iff.mpr ⟨n1, noMus_set h ds i n2⟩
theorem noMuk_append : ∀ (a b : List (Key × D)), noMuk (a ++ b) = (noMuk a && noMuk b)
  | [], b => rfl
  | (_, d) :: a, b => by
    show (noMu d && noMuk (a ++ b)) = ((noMu d && noMuk a) && noMuk b)
    rw [noMuk_append a b, Bool.and_assoc]
theorem noMuk_map {d : D} (h : noMu d = true) (z : Key) : ∀ (ds : List (Key × D)), noMuk ds = true → noMuk (ds.map fun kv => if kv.1 = z then (kv.1, d) else kv) = true
  | [], _ => rfl
  | (k, e) :: ds, n => by
    obtain ⟨n1, n2⟩ := Bool.and_eq_true_iff.mp (show (noMu e && noMuk ds) = true from n)
    have ih := noMuk_map h z ds n2
    rw [List.map_cons]
    by_cases c : k = z
    · rw [if_pos c]; exact Bool.and_eq_true_iff.mpr ⟨h, ih⟩
    · rw [if_neg c]; exact Bool.and_eq_true_iff.mpr ⟨n1, ih⟩
theorem noMuk_put {d : D} (h : noMu d = true) (z : Key) (ds : List (Key × D)) (n : noMuk ds = true) : noMuk (putD ds z d) = true := by
  unfold putD
  split
  · exact noMuk_map h z ds n
  · rw [noMuk_append, n]
    exact Bool.and_eq_true_iff.mpr ⟨rfl, Bool.and_eq_true_iff.mpr ⟨h, rfl⟩⟩
theorem noMuf_put {d : D} (h : noMu d = true) (f : Str) : ∀ (ds : List (Str × D)), noMuf ds = true → noMuf (Pv.putF f d ds) = true
  | [], _ => Bool.and_eq_true_iff.mpr ⟨h, rfl⟩
  | (k, e) :: ds, n => by
    obtain ⟨n1, n2⟩ := Bool.and_eq_true_iff.mp (show (noMu e && noMuf ds) = true from n)
    show noMuf (if k = f then (f, d) :: ds else (k, e) :: Pv.putF f d ds) = true
    split
    · exact Bool.and_eq_true_iff.mpr ⟨h, n2⟩
    · exact Bool.and_eq_true_iff.mpr ⟨n1, noMuf_put h f ds n2⟩
end

/-! ### the state -/
section
variable (K : Frag)
def MOk (g : G) (H : Hp) (a : Addr) : MO → Prop
  | .gone => True
  | .lst ds => g.F a = none ∧ g.k a = none ∧ ∃ vs, H a = some (.lst vs) ∧ Rps K g ds vs ∧ noMus ds = true
  | .dct kvs => g.F a = none ∧ g.k a = none ∧ ∃ vs, H a = some (.dK vs) ∧ Rpk K g kvs vs ∧ noMuk kvs = true
  | .ins c fs => g.F a = none ∧ g.k a = none ∧ ∃ dx vs, H a = some (.ins (He.ga K c) dx vs) ∧ Rpf K g fs vs ∧ noMuf fs = true ∧ ClsOk K c
  | .frz d => Rp K g d (.ref a) ∧ noMu d = true
def live : MO → Bool
  | .lst _ => true
  | .dct _ => true
  | .ins _ _ => true
  | _ => false
structure SR (g : G) (H : Hp) (S : Sto) : Prop where
  f : ∀ a o, g.F a = some o → H a = some o
  k : ∀ a o, g.k a = some o → H a = some o
  kf : ∀ a o, g.k a = some o → g.F a = none
  len : g.a.length = S.length
  m : ∀ (i : Nat) (m : MO) (a : Addr), S[i]? = some m → g.a[i]? = some a → MOk K g H a m
  ap : ∀ (i j : Nat) (a : Addr) (m n : MO), g.a[i]? = some a → g.a[j]? = some a → S[i]? = some m → S[j]? = some n → live m = true → live n = true → i = j
structure Slots (g : G) (env : Ev) (σ : St) : Prop where
  len : env.length = σ.length
  get : ∀ (i : Nat) (d : D), env[i]? = some (some d) → ∃ v, σ[i]? = some (some v) ∧ Rp K g d v
end
section
variable {K : Frag} {g g' : G} {H H' : Hp} {S S' : Sto} {env : Ev} {σ : St}
theorem Slots.mono (h : Slots K g env σ) (l : G.Le g g') : Slots K g' env σ := ⟨h.len, fun i d e => let ⟨v, a, b⟩ := h.get i d e; ⟨v, a, b.mono l⟩⟩
theorem Slots.set (h : Slots K g env σ) {d : D} {v : V} (r : Rp K g d v) (i : Nat) : Slots K g (env.set i (some d)) (σ.set i (some v)) := by
  refine ⟨by rw [List.length_set, List.length_set]; exact h.len, fun j d' e => ?_⟩
  by_cases c : j = i
  · subst c
    by_cases q : j < env.length
    · rw [List.getElem?_set_self q] at e
      cases e
      exact ⟨v, List.getElem?_set_self (by rw [← h.len]; exact q), r⟩
    · rw [List.getElem?_eq_none (by rw [List.length_set]; omega)] at e
      cases e
  · rw [List.getElem?_set_ne (Ne.symm c)] at e ⊢
    exact h.get j d' e
/-- a new object that is never changed -/
def G.lay (g : G) (p : Addr) (o : HO) : G := { g with F := upd g.F p o }
theorem SR.fresh (h : SR K g H S) {p : Addr} (hp : H p = none) : g.F p = none ∧ g.k p = none := by
  constructor
  · cases e : g.F p with
    | none => rfl
    | some o => rw [h.f p o e] at hp; cases hp
  · cases e : g.k p with
    | none => rfl
    | some o => rw [h.k p o e] at hp; cases hp
theorem lay_le {p : Addr} {o : HO} (hp : g.F p = none) : G.Le g (g.lay p o) :=
  ⟨fun a u e => by show upd g.F p o a = some u; rw [upd_ne (fun z => by rw [z, hp] at e; cases e)]; exact e, fun _ _ e => e, fun _ _ e => e⟩
theorem MOk.keepF {a : Addr} {m : MO} (h : MOk K g H a m) (lF : ∀ a o, g.F a = some o → g'.F a = some o) (la : ∀ (i : Nat) (x : Addr), g.a[i]? = some x → g'.a[i]? = some x) (hF : ∀ o, H a = some o → live m = true → g'.F a = none ∧ g'.k a = none) (hH : ∀ o, H a = some o → live m = true → H' a = some o) : MOk K g' H' a m := by
  cases m with
  | gone => exact True.intro
  | lst ds =>
    obtain ⟨_, _, vs, e, r, n⟩ := h
    exact ⟨(hF _ e rfl).1, (hF _ e rfl).2, vs, hH _ e rfl, r.moF lF la, n⟩
  | dct ds =>
    obtain ⟨_, _, vs, e, r, n⟩ := h
    exact ⟨(hF _ e rfl).1, (hF _ e rfl).2, vs, hH _ e rfl, r.moF lF la, n⟩
  | ins c ds =>
    obtain ⟨_, _, dx, vs, e, r, n⟩ := h
    exact ⟨(hF _ e rfl).1, (hF _ e rfl).2, dx, vs, hH _ e rfl, r.moF lF la, n⟩
  | frz d => exact ⟨h.1.moF lF la, h.2⟩
theorem MOk.keep {a : Addr} {m : MO} (h : MOk K g H a m) (l : G.Le g g') (hF : ∀ o, H a = some o → live m = true → g'.F a = none ∧ g'.k a = none) (hH : ∀ o, H a = some o → live m = true → H' a = some o) : MOk K g' H' a m := h.keepF l.F l.a hF hH
theorem MOk.free {a : Addr} {m : MO} (h : MOk K g H a m) (lv : live m = true) : g.F a = none ∧ g.k a = none ∧ ∃ o, H a = some o := by
  cases m with
  | gone => cases lv
  | lst ds => obtain ⟨h1, h2, vs, e, r⟩ := h; exact ⟨h1, h2, _, e⟩
  | dct ds => obtain ⟨h1, h2, vs, e, r⟩ := h; exact ⟨h1, h2, _, e⟩
  | ins c ds => obtain ⟨h1, h2, dx, vs, e, r⟩ := h; exact ⟨h1, h2, _, e⟩
  | frz d => cases lv
theorem SR.lay (h : SR K g H S) {p : Addr} (hp : H p = none) (o : HO) : SR K (g.lay p o) (upd H p o) S := by
  obtain ⟨fp, kp⟩ := h.fresh hp
  refine ⟨fun a u e => ?_, fun a u e => ?_, fun a u e => ?_, h.len, fun i m a e1 e2 => ?_, h.ap⟩
  · by_cases c : a = p
    · subst c
      have e' : upd g.F a o a = some u := e
      rw [upd_same] at e' ⊢
      exact e'
    · have e' : upd g.F p o a = some u := e
      rw [upd_ne c] at e' ⊢
      exact h.f a u e'
  · have e' : g.k a = some u := e
    rw [upd_ne (fun z => by rw [z, kp] at e'; cases e')]
    exact h.k a u e'
  · have e' : g.k a = some u := e
    show upd g.F p o a = none
    rw [upd_ne (fun z => by rw [z, kp] at e'; cases e')]
    exact h.kf a u e'
  · refine (h.m i m a e1 e2).keep (lay_le fp) (fun u hu lv => ?_) (fun u hu _ => ?_)
    · have ne : a ≠ p := fun z => by rw [z, hp] at hu; cases hu
      have q := (h.m i m a e1 e2).free lv
      exact ⟨by show upd g.F p o a = none; rw [upd_ne ne]; exact q.1, q.2.1⟩
    · rw [upd_ne (fun z => by rw [z, hp] at hu; cases hu)]
      exact hu
/-- a new object that stays mutable -/
def G.own (g : G) (p : Addr) : G := { g with a := g.a ++ [p] }
theorem own_le {p : Addr} : G.Le g (g.own p) := ⟨fun _ _ e => e, fun _ _ e => e, fun i x e => by
  show (g.a ++ [p])[i]? = some x
  rw [List.getElem?_append_left (List.getElem?_eq_some_iff.mp e).1]
  exact e⟩
theorem getElem?_snoc {α : Type} {l : List α} {x y : α} {i : Nat} (e : (l ++ [x])[i]? = some y) : l[i]? = some y ∨ (i = l.length ∧ y = x) := by
  by_cases c : i < l.length
  · rw [List.getElem?_append_left c] at e
    exact .inl e
  · rw [List.getElem?_append_right (by omega)] at e
    have z : i - l.length = 0 := by
      have := (List.getElem?_eq_some_iff.mp e).1
      simp at this
      omega
    rw [z] at e
    simp at e
    exact .inr ⟨by omega, e.symm⟩
theorem SR.own (h : SR K g H S) {p : Addr} (hp : H p = none) {o : HO} {m : MO} (hm : MOk K (g.own p) (upd H p o) p m) : SR K (g.own p) (upd H p o) (S ++ [m]) := by
  obtain ⟨fp, kp⟩ := h.fresh hp
  have old : ∀ {i : Nat} {a : Addr} {m : MO}, g.a[i]? = some a → S[i]? = some m → live m = true → a ≠ p := fun {i a m} e1 e2 lv z => by
    obtain ⟨_, _, u, q⟩ := (h.m i m a e2 e1).free lv
    rw [z, hp] at q
    cases q
  refine ⟨fun a u e => ?_, fun a u e => ?_, h.kf, ?_, fun i m' a e1 e2 => ?_, fun i j a m1 m2 e1 e2 e3 e4 l1 l2 => ?_⟩
  · rw [upd_ne (fun z => by rw [z] at e; have : g.F p = some u := e; rw [fp] at this; cases this)]
    exact h.f a u e
  · rw [upd_ne (fun z => by rw [z] at e; have : g.k p = some u := e; rw [kp] at this; cases this)]
    exact h.k a u e
  · show (g.a ++ [p]).length = (S ++ [m]).length
    rw [List.length_append, List.length_append, h.len]
    rfl
  · rcases getElem?_snoc e1 with q1 | ⟨q1, q1'⟩
    · rcases getElem?_snoc (show (g.a ++ [p])[i]? = some a from e2) with q2 | ⟨q2, _⟩
      · refine (h.m i m' a q1 q2).keep own_le (fun u hu lv => let q := (h.m i m' a q1 q2).free lv; ⟨q.1, q.2.1⟩) (fun u hu lv => ?_)
        rw [upd_ne (old q2 q1 lv)]
        exact hu
      · have := (List.getElem?_eq_some_iff.mp q1).1
        rw [q2, h.len] at this
        omega
    · rcases getElem?_snoc (show (g.a ++ [p])[i]? = some a from e2) with q2 | ⟨_, q2⟩
      · have := (List.getElem?_eq_some_iff.mp q2).1
        rw [q1, h.len] at this
        omega
      · subst q1' q2
        exact hm
  · rcases getElem?_snoc (show (g.a ++ [p])[i]? = some a from e1) with q1 | ⟨q1, q1'⟩
    · rcases getElem?_snoc (show (g.a ++ [p])[j]? = some a from e2) with q2 | ⟨q2, q2'⟩
      · have i1 := (List.getElem?_eq_some_iff.mp q1).1
        have i2 := (List.getElem?_eq_some_iff.mp q2).1
        rw [h.len] at i1 i2
        rw [List.getElem?_append_left i1] at e3
        rw [List.getElem?_append_left i2] at e4
        exact h.ap i j a m1 m2 q1 q2 e3 e4 l1 l2
      · have i1 := (List.getElem?_eq_some_iff.mp q1).1
        rw [h.len] at i1
        rw [List.getElem?_append_left i1] at e3
        exact absurd q2' (old q1 e3 l1)
    · rcases getElem?_snoc (show (g.a ++ [p])[j]? = some a from e2) with q2 | ⟨q2, q2'⟩
      · have i2 := (List.getElem?_eq_some_iff.mp q2).1
        rw [h.len] at i2
        rw [List.getElem?_append_left i2] at e4
        exact absurd q1' (old q2 e4 l2)
      · rw [q1, q2]
/-- a mutable thing is changed -/
theorem SR.write (h : SR K g H S) {i : Nat} {a : Addr} {m m' : MO} (e1 : S[i]? = some m) (e2 : g.a[i]? = some a) (lv : live m = true) {o : HO} (hm : MOk K g (upd H a o) a m') : SR K g (upd H a o) (S.set i m') := by
  obtain ⟨fa, ka, _⟩ := (h.m i m a e1 e2).free lv
  have il := (List.getElem?_eq_some_iff.mp e1).1
  have other : ∀ {j : Nat} {b : Addr} {n : MO}, j ≠ i → g.a[j]? = some b → S[j]? = some n → live n = true → b ≠ a := fun {j b n} hj q1 q2 l z => hj (h.ap j i a n m (z ▸ q1) e2 q2 e1 l lv)
  refine ⟨fun b u e => ?_, fun b u e => ?_, h.kf, by rw [List.length_set]; exact h.len, fun j n b q1 q2 => ?_, fun j l b n1 n2 q1 q2 q3 q4 l1 l2 => ?_⟩
  · rw [upd_ne (fun z => by rw [z, fa] at e; cases e)]
    exact h.f b u e
  · rw [upd_ne (fun z => by rw [z, ka] at e; cases e)]
    exact h.k b u e
  · by_cases c : j = i
    · subst c
      rw [List.getElem?_set_self il] at q1
      cases q1
      rw [e2] at q2
      cases q2
      exact hm
    · rw [List.getElem?_set_ne (Ne.symm c)] at q1
      refine (h.m j n b q1 q2).keep (G.Le.refl g) (fun u hu lv' => let q := (h.m j n b q1 q2).free lv'; ⟨q.1, q.2.1⟩) (fun u hu lv' => ?_)
      rw [upd_ne (other c q2 q1 lv')]
      exact hu
  · have get : ∀ {j : Nat} {n : MO}, (S.set i m')[j]? = some n → live n = true → ∃ n', S[j]? = some n' ∧ live n' = true := fun {j n} q l => by
      by_cases c : j = i
      · rw [c]
        exact ⟨m, e1, lv⟩
      · rw [List.getElem?_set_ne (Ne.symm c)] at q
        exact ⟨n, q, l⟩
    obtain ⟨n1', z1, z1'⟩ := get q3 l1
    obtain ⟨n2', z2, z2'⟩ := get q4 l2
    exact h.ap j l b n1' n2' q1 q2 z1 z2 z1' z2'
/-- a mutable list is never changed again -/
theorem SR.freeze (h : SR K g H S) {i : Nat} {a : Addr} {m : MO} {o : HO} {d : D} (e1 : S[i]? = some m) (e2 : g.a[i]? = some a) (lv : live m = true) (ho : H a = some o) (r : Rp K (g.lay a o) d (.ref a)) (n : noMu d = true) :
    SR K (g.lay a o) H (S.set i (.frz d)) ∧ G.Le g (g.lay a o) := by
  obtain ⟨fa, ka, _⟩ := (h.m i m a e1 e2).free lv
  have le := lay_le (o := o) fa
  have il := (List.getElem?_eq_some_iff.mp e1).1
  have other : ∀ {j : Nat} {b : Addr} {n : MO}, j ≠ i → g.a[j]? = some b → S[j]? = some n → live n = true → b ≠ a := fun {j b n} hj q1 q2 l z => hj (h.ap j i a n m (z ▸ q1) e2 q2 e1 l lv)
  refine ⟨⟨fun b u e => ?_, h.k, fun b u e => ?_, by rw [List.length_set]; exact h.len, fun j n b q1 q2 => ?_, fun j l b n1 n2 q1 q2 q3 q4 l1 l2 => ?_⟩, le⟩
  · have e' : upd g.F a o b = some u := e
    by_cases c : b = a
    · subst c
      rw [upd_same] at e'
      rw [← e']
      exact ho
    · rw [upd_ne c] at e'
      exact h.f b u e'
  · have e' : g.k b = some u := e
    show upd g.F a o b = none
    rw [upd_ne (fun z => by rw [z, ka] at e'; cases e')]
    exact h.kf b u e'
  · by_cases c : j = i
    · subst c
      rw [List.getElem?_set_self il] at q1
      cases q1
      have q2' : g.a[j]? = some b := q2
      rw [e2] at q2'
      cases q2'
      exact ⟨r, by assumption⟩
    · rw [List.getElem?_set_ne (Ne.symm c)] at q1
      refine (h.m j n b q1 q2).keep le (fun u hu lv' => ?_) (fun u hu _ => hu)
      have q := (h.m j n b q1 q2).free lv'
      exact ⟨by show upd g.F a o b = none; rw [upd_ne (other c q2 q1 lv')]; exact q.1, q.2.1⟩
  · have get : ∀ {j : Nat} {n : MO}, (S.set i (.frz d))[j]? = some n → live n = true → S[j]? = some n := fun {j n} q l => by
      by_cases c : j = i
      · rw [c, List.getElem?_set_self il] at q
        cases q
        cases l
      · rw [List.getElem?_set_ne (Ne.symm c)] at q
        exact q
    exact h.ap j l b n1 n2 q1 q2 (get q3 l1) (get q4 l2) l1 l2
/-- the younger things of the store are forgotten -/
def G.cut (g : G) (n : Nat) : G := { g with a := g.a.take n }
theorem MOk.cut {a : Addr} {m : MO} (h : MOk K g H a m) (n : Nat) : MOk K (g.cut n) H a m := by
  cases m with
  | gone => exact True.intro
  | lst ds =>
    obtain ⟨h1, h2, vs, e, r, z⟩ := h
    exact ⟨h1, h2, vs, e, r.noMu (g := g) (g' := g.cut n) (fun _ _ e => e) z, z⟩
  | dct ds =>
    obtain ⟨h1, h2, vs, e, r, z⟩ := h
    exact ⟨h1, h2, vs, e, r.noMu (g := g) (g' := g.cut n) (fun _ _ e => e) z, z⟩
  | ins c ds =>
    obtain ⟨h1, h2, dx, vs, e, r, z, y⟩ := h
    exact ⟨h1, h2, dx, vs, e, r.noMu (g := g) (g' := g.cut n) (fun _ _ e => e) z, z, y⟩
  | frz d => exact ⟨h.1.noMu (g := g) (g' := g.cut n) (fun _ _ e => e) h.2, h.2⟩
theorem SR.cut (h : SR K g H S) (n : Nat) : SR K (g.cut n) H (S.take n) := by
  have ta : ∀ {i : Nat} {x : Addr}, (g.cut n).a[i]? = some x → g.a[i]? = some x := fun {i x} e => by
    have e' : (g.a.take n)[i]? = some x := e
    rw [List.getElem?_take] at e'
    split at e'
    · exact e'
    · cases e'
  have ts : ∀ {i : Nat} {x : MO}, (S.take n)[i]? = some x → S[i]? = some x := fun {i x} e' => by
    rw [List.getElem?_take] at e'
    split at e'
    · exact e'
    · cases e'
  refine ⟨h.f, h.k, h.kf, ?_, fun i m a e1 e2 => (h.m i m a (ts e1) (ta e2)).cut n, fun i j a m1 m2 e1 e2 e3 e4 l1 l2 => h.ap i j a m1 m2 (ta e1) (ta e2) (ts e3) (ts e4) l1 l2⟩
  show (g.a.take n).length = (S.take n).length
  rw [List.length_take, List.length_take, h.len]
theorem cut_le {g0 : G} {n : Nat} (hn : g0.a.length ≤ n) (l : G.Le g0 g) : G.Le g0 (g.cut n) := ⟨l.F, l.k, fun i x e => by
  show (g.a.take n)[i]? = some x
  have := (List.getElem?_eq_some_iff.mp e).1
  rw [List.getElem?_take, if_pos (by omega)]
  exact l.a i x e⟩
/-- a new object of which nothing is told -/
theorem SR.ext (h : SR K g H S) {p : Addr} (hp : H p = none) (o : HO) : SR K g (upd H p o) S := by
  obtain ⟨fp, kp⟩ := h.fresh hp
  refine ⟨fun a u e => ?_, fun a u e => ?_, h.kf, h.len, fun i m a e1 e2 => ?_, h.ap⟩
  · rw [upd_ne (fun z => by rw [z, fp] at e; cases e)]
    exact h.f a u e
  · rw [upd_ne (fun z => by rw [z, kp] at e; cases e)]
    exact h.k a u e
  · refine (h.m i m a e1 e2).keep (G.Le.refl g) (fun u hu lv => let q := (h.m i m a e1 e2).free lv; ⟨q.1, q.2.1⟩) (fun u hu _ => ?_)
    rw [upd_ne (fun z => by rw [z, hp] at hu; cases hu)]
    exact hu
theorem frz1_ok (h : SR K g H S) {x : D} {v : V} (r : Rp K g x v) : ∃ g', G.Le g g' ∧ SR K g' H (frz1 S x).2 ∧ Rp K g' (frz1 S x).1 v := by
  cases r with
  | @mu a i q =>
    show ∃ g', G.Le g g' ∧ SR K g' H (match S[i]? with
      | some (.lst ds) => (D.lst ds, S.set i (.frz (.lst ds)))
      | some (.dct kvs) => (.dct kvs, S.set i (.frz (.dct kvs)))
      | some (.frz d) => (d, S)
      | _ => (.mu i, S)).2 ∧ Rp K g' (match S[i]? with
      | some (.lst ds) => (D.lst ds, S.set i (.frz (.lst ds)))
      | some (.dct kvs) => (.dct kvs, S.set i (.frz (.dct kvs)))
      | some (.frz d) => (d, S)
      | _ => (.mu i, S)).1 (.ref a)
    cases z : S[i]? with
    | none => exact ⟨g, G.Le.refl g, h, .mu q⟩
    | some m =>
      have mk := h.m i m a z q
      cases m with
      | gone => exact ⟨g, G.Le.refl g, h, .mu q⟩
      | lst es =>
        obtain ⟨h1, h2, vs, e, r, n⟩ := mk
        have rr : Rp K (g.lay a (.lst vs)) (.lst es) (.ref a) := .lst upd_same (r.mono (lay_le h1))
        exact ⟨_, (h.freeze z q rfl e rr n).2, (h.freeze z q rfl e rr n).1, rr⟩
      | dct es =>
        obtain ⟨h1, h2, vs, e, r, n⟩ := mk
        have rr : Rp K (g.lay a (.dK vs)) (.dct es) (.ref a) := .dct upd_same (r.mono (lay_le h1))
        exact ⟨_, (h.freeze z q rfl e rr n).2, (h.freeze z q rfl e rr n).1, rr⟩
      | ins c fs => exact ⟨g, G.Le.refl g, h, .mu q⟩
      | frz d => exact ⟨g, G.Le.refl g, h, mk.1⟩
  | non => exact ⟨g, G.Le.refl g, h, .non⟩
  | bl b => exact ⟨g, G.Le.refl g, h, .bl b⟩
  | int i => exact ⟨g, G.Le.refl g, h, .int i⟩
  | str x => exact ⟨g, G.Le.refl g, h, .str x⟩
  | scr q => exact ⟨g, G.Le.refl g, h, .scr q⟩
  | tup q1 q2 => exact ⟨g, G.Le.refl g, h, .tup q1 q2⟩
  | lst q1 q2 => exact ⟨g, G.Le.refl g, h, .lst q1 q2⟩
  | dct q1 q2 => exact ⟨g, G.Le.refl g, h, .dct q1 q2⟩
  | ins q1 c q2 => exact ⟨g, G.Le.refl g, h, .ins q1 c q2⟩
theorem frzs_ok : ∀ {xs : List D} {vs : List V} {g : G} {S : Sto}, SR K g H S → Rps K g xs vs → ∃ g', G.Le g g' ∧ SR K g' H (frzs S xs).2 ∧ Rps K g' (frzs S xs).1 vs
  | _, _, g, S, h, .nil => ⟨g, G.Le.refl g, h, .nil⟩
  | x :: xs, _, g, S, h, .cons r rs => by
    obtain ⟨g1, l1, s1, r1⟩ := frz1_ok h r
    obtain ⟨g2, l2, s2, r2⟩ := frzs_ok (xs := xs) s1 (rs.mono l1)
    exact ⟨g2, l1.trans l2, s2, .cons (r1.mono l2) r2⟩
end
end Pv

set_option Elab.async false
set_option linter.all false
set_option maxRecDepth 100000
set_option maxHeartbeats 1000000
/-! Pv, part C: operators by values. -/
namespace Pv
open PySem L2
open PyProof.Rows hiding St
open PySem.W (Frag)
section
variable {K : Frag} {g g' : G} {H H' : Hp} {S S' : Sto} {env : Ev} {σ : St}
/-! ### what a value is, looked at through the store -/
theorem dr_lst (h : SR K g H S) {x : D} {v : V} (r : Rp K g x v) {ds : List D} (e : dr S x = .lst ds) : ∃ a vs, v = .ref a ∧ H a = some (.lst vs) ∧ Rps K g ds vs := by
  cases r with
  | lst q1 q2 =>
    have e1 : D.lst _ = D.lst ds := e
    cases e1
    exact ⟨_, _, rfl, h.f _ _ q1, q2⟩
  | @mu a i q =>
    have e1 : (match S[i]? with
      | some (.lst ds) => D.lst ds
      | some (.dct kvs) => .dct kvs
      | some (.frz d) => d
      | _ => .mu i) = .lst ds := e
    cases z : S[i]? with
    | none => rw [z] at e1; cases e1
    | some m =>
      rw [z] at e1
      have mk := h.m i m a z q
      cases m with
      | gone => cases e1
      | lst es =>
        cases e1
        obtain ⟨_, _, vs, h1, h2, _⟩ := mk
        exact ⟨a, vs, rfl, h1, h2⟩
      | dct kvs => cases e1
      | ins c fs => cases e1
      | frz d =>
        have e2 : d = .lst ds := e1
        subst e2
        obtain ⟨mk, _⟩ := mk
        cases mk with
        | lst q1 q2 => exact ⟨_, _, rfl, h.f _ _ q1, q2⟩
  | _ => cases e
theorem dr_dct (h : SR K g H S) {x : D} {v : V} (r : Rp K g x v) {ds : List (Key × D)} (e : dr S x = .dct ds) : ∃ a vs, v = .ref a ∧ H a = some (.dK vs) ∧ Rpk K g ds vs := by
  cases r with
  | dct q1 q2 =>
    have e1 : D.dct _ = D.dct ds := e
    cases e1
    exact ⟨_, _, rfl, h.f _ _ q1, q2⟩
  | @mu a i q =>
    have e1 : (match S[i]? with
      | some (.lst ds) => D.lst ds
      | some (.dct kvs) => .dct kvs
      | some (.frz d) => d
      | _ => .mu i) = .dct ds := e
    cases z : S[i]? with
    | none => rw [z] at e1; cases e1
    | some m =>
      rw [z] at e1
      have mk := h.m i m a z q
      cases m with
      | gone => cases e1
      | dct es =>
        cases e1
        obtain ⟨_, _, vs, h1, h2, _⟩ := mk
        exact ⟨a, vs, rfl, h1, h2⟩
      | lst kvs => cases e1
      | ins c fs => cases e1
      | frz d =>
        have e2 : d = .dct ds := e1
        subst e2
        obtain ⟨mk, _⟩ := mk
        cases mk with
        | dct q1 q2 => exact ⟨_, _, rfl, h.f _ _ q1, q2⟩
  | _ => cases e
/-- all else is the value itself -/
theorem dr_self (h : SR K g H S) {x : D} {v : V} (r : Rp K g x v) : Rp K g (dr S x) v ∨ ∃ i, x = .mu i ∧ ((∃ ds, dr S x = .lst ds) ∨ ∃ kvs, dr S x = .dct kvs) := by
  cases r with
  | @mu a i q =>
    show Rp K g (match S[i]? with
      | some (.lst ds) => D.lst ds
      | some (.dct kvs) => .dct kvs
      | some (.frz d) => d
      | _ => .mu i) (.ref a) ∨ ∃ j, D.mu i = .mu j ∧ ((∃ ds, (match S[i]? with
      | some (.lst ds) => D.lst ds
      | some (.dct kvs) => .dct kvs
      | some (.frz d) => d
      | _ => .mu i) = .lst ds) ∨ ∃ kvs, (match S[i]? with
      | some (.lst ds) => D.lst ds
      | some (.dct kvs) => .dct kvs
      | some (.frz d) => d
      | _ => .mu i) = .dct kvs)
    cases z : S[i]? with
    | none => exact .inl (.mu q)
    | some m =>
      have mk := h.m i m a z q
      cases m with
      | gone => exact .inl (.mu q)
      | lst es => exact .inr ⟨i, rfl, .inl ⟨es, rfl⟩⟩
      | dct es => exact .inr ⟨i, rfl, .inr ⟨es, rfl⟩⟩
      | ins c fs => exact .inl (.mu q)
      | frz d => exact .inl mk.1
  | non => exact .inl .non
  | bl b => exact .inl (.bl b)
  | int i => exact .inl (.int i)
  | str x => exact .inl (.str x)
  | scr q => exact .inl (.scr q)
  | tup q1 q2 => exact .inl (.tup q1 q2)
  | lst q1 q2 => exact .inl (.lst q1 q2)
  | dct q1 q2 => exact .inl (.dct q1 q2)
  | ins q1 c q2 => exact .inl (.ins q1 c q2)
theorem dr_int (h : SR K g H S) {x : D} {v : V} (r : Rp K g x v) {i : Int} (e : dr S x = .int i) : v = .int i := by
  rcases dr_self h r with q | ⟨_, _, ⟨_, z⟩ | ⟨_, z⟩⟩
  · rw [e] at q; cases q; rfl
  · rw [e] at z; cases z
  · rw [e] at z; cases z
theorem dr_str (h : SR K g H S) {x : D} {v : V} (r : Rp K g x v) {i : Str} (e : dr S x = .str i) : v = .str i := by
  rcases dr_self h r with q | ⟨_, _, ⟨_, z⟩ | ⟨_, z⟩⟩
  · rw [e] at q; cases q; rfl
  · rw [e] at z; cases z
  · rw [e] at z; cases z
theorem dr_tup (h : SR K g H S) {x : D} {v : V} (r : Rp K g x v) {ds : List D} (e : dr S x = .tup ds) : ∃ a vs, v = .ref a ∧ SqT K H a vs ∧ Rps K g ds vs := by
  rcases dr_self h r with q | ⟨_, _, ⟨_, z⟩ | ⟨_, z⟩⟩
  · rw [e] at q; cases q with
    | tup q1 q2 => exact ⟨_, _, rfl, sqT_mono h.f q1, q2⟩
  · rw [e] at z; cases z
  · rw [e] at z; cases z
theorem dr_scr (h : SR K g H S) {x : D} {v : V} (r : Rp K g x v) {ns : List Int} (e : dr S x = .scr ns) : ∃ a, v = .ref a ∧ SqL K H a (ns.map V.int) := by
  rcases dr_self h r with q | ⟨_, _, ⟨_, z⟩ | ⟨_, z⟩⟩
  · rw [e] at q; cases q with
    | scr q1 => exact ⟨_, rfl, sqL_mono h.f q1⟩
  · rw [e] at z; cases z
  · rw [e] at z; cases z
theorem dr_ins (h : SR K g H S) {x : D} {v : V} (r : Rp K g x v) {c : Str} {fs : List (Str × D)} (e : dr S x = .ins c fs) : ∃ a dx vs, v = .ref a ∧ H a = some (.ins (He.ga K c) dx vs) ∧ Rpf K g fs vs ∧ ClsOk K c := by
  rcases dr_self h r with q | ⟨_, _, ⟨_, z⟩ | ⟨_, z⟩⟩
  · rw [e] at q; cases q with
    | ins q1 c q2 => exact ⟨_, _, _, rfl, h.f _ _ q1, q2, c⟩
  · rw [e] at z; cases z
  · rw [e] at z; cases z
/-! ### plain data -/
mutual
theorem py_dp (hf : ∀ a o, g.F a = some o → H a = some o) : ∀ {d : D} {v : V} {p : PyData}, Rp K g d v → py d = some p → Dp K H v p
  | _, _, _, .non, e => by cases (show some PyData.none = some _ from e); exact .non
  | _, _, _, .bl b, e => by cases (show some (PyData.bool b) = some _ from e); exact .bl b
  | _, _, _, .int i, e => by cases (show some (PyData.int i) = some _ from e); exact .int i
  | _, _, _, .str x, e => by cases (show some (PyData.str x) = some _ from e); exact .str x
  | _, _, _, .scr _, e => by cases (show (none : Option PyData) = some _ from e)
  | _, _, _, .dct _ _, e => by cases (show (none : Option PyData) = some _ from e)
  | _, _, _, .ins _ _ _, e => by cases (show (none : Option PyData) = some _ from e)
  | _, _, _, .mu _, e => by cases (show (none : Option PyData) = some _ from e)
  | .tup ds, _, _, .tup q r, e => by
    have e1 : (pys ds).map PyData.tuple = some _ := e
    obtain ⟨ps, h1, h2⟩ := Option.map_eq_some_iff.mp e1
    subst h2
    exact .tup (sqT_mono hf q) (pys_dp hf r h1)
  | .lst ds, _, _, .lst q r, e => by
    have e1 : (pys ds).map PyData.list = some _ := e
    obtain ⟨ps, h1, h2⟩ := Option.map_eq_some_iff.mp e1
    subst h2
    exact .lst (SqL.of (hf _ _ q)) (pys_dp hf r h1)
theorem pys_dp (hf : ∀ a o, g.F a = some o → H a = some o) : ∀ {ds : List D} {vs : List V} {ps : List PyData}, Rps K g ds vs → pys ds = some ps → DpAll K H vs ps
  | _, _, _, .nil, e => by cases (show some [] = some _ from e); exact .nil
  | d :: ds, _, _, .cons r rs, e => by
    have e1 : (match py d with
      | some p => (match pys ds with
        | some ps => some (p :: ps)
        | none => none)
      | none => none) = some _ := e
    cases h1 : py d with
    | none => rw [h1] at e1; cases e1
    | some p =>
      rw [h1] at e1
      cases h2 : pys ds with
      | none => rw [h2] at e1; cases e1
      | some ps =>
        rw [h2] at e1
        cases e1
        exact .cons (py_dp hf r h1) (pys_dp hf rs h2)
end
theorem pyS_dp (h : SR K g H S) {x : D} {v : V} (r : Rp K g x v) {p : PyData} (e : pyS S x = some p) : Dp K H v p ∧ SeqAt.shaped p = true := by
  unfold pyS at e
  cases z : py (dr S x) with
  | none => rw [z] at e; cases e
  | some q =>
    rw [z] at e
    have e1 : (if SeqAt.shaped q = true then some q else none) = some p := e
    by_cases c : SeqAt.shaped q = true
    · rw [if_pos c] at e1
      cases e1
      refine ⟨?_, c⟩
      rcases dr_self h r with r1 | ⟨_, _, ⟨ds, y⟩ | ⟨_, y⟩⟩
      · exact py_dp h.f r1 z
      · obtain ⟨a, vs, rfl, h1, h2⟩ := dr_lst h r y
        rw [y] at z
        have z1 : (pys ds).map PyData.list = some _ := z
        obtain ⟨ps, q1, q2⟩ := Option.map_eq_some_iff.mp z1
        subst q2
        exact .lst (SqL.of h1) (pys_dp h.f h2 q1)
      · rw [y] at z
        cases (show (none : Option PyData) = some _ from z)
    · rw [if_neg c] at e1
      cases e1
end
/-! ### an operator over plain values -/
def Give (K : Frag) (g : G) (S : Sto) (d : D) (Q : VK) : Prop := ∀ g' H' v, G.Le g g' → SR K g' H' S → Rp K g' d v → Q v H'
def OpD (K : Frag) (f : Sto → D → D → Option D) (r : R2) : Prop := ∀ (g : G) (H : Hp) (S : Sto) (x y : D) (vx vy : V) (d : D) (Q : VK), SR K g H S → Rp K g x vx → Rp K g y vy → f S x y = some d → Give K g S d Q → r vx vy H Q
section
variable {K : Frag} {g g' : G} {H H' : Hp} {S S' : Sto}
theorem Give.here {d : D} {Q : VK} (q : Give K g S d Q) (h : SR K g H S) {v : V} (r : Rp K g d v) : Q v H := q g H v (G.Le.refl g) h r
theorem Give.lst {ds : List D} {vs : List V} {Q : VK} (q : Give K g S (.lst ds) Q) (h : SR K g H S) (r : Rps K g ds vs) {p : Addr} (hp : H p = none) : Q (.ref p) (upd H p (.lst vs)) :=
  q (g.lay p (.lst vs)) _ _ (lay_le (h.fresh hp).1) (h.lay hp _) (.lst (upd_same (H := g.F)) (r.mono (lay_le (h.fresh hp).1)))
theorem Give.tup {ds : List D} {vs : List V} {Q : VK} (q : Give K g S (.tup ds) Q) (h : SR K g H S) (r : Rps K g ds vs) {p : Addr} (hp : H p = none) : Q (.ref p) (upd H p (.tup vs)) :=
  q (g.lay p (.tup vs)) _ _ (lay_le (h.fresh hp).1) (h.lay hp _) (.tup (SqT.of (upd_same (H := g.F))) (r.mono (lay_le (h.fresh hp).1)))
variable {X : Cx}
def rAddA : R2 := fun x y H Q => (∃ i j, x = V.int i ∧ y = V.int j ∧ Q (.int (i + j)) H) ∨ (∃ i j, x = V.str i ∧ y = V.str j ∧ i.length + j.length ≤ sizeLine ∧ Q (.str (i ++ j)) H) ∨ rCat x y H Q
theorem op_addA : OpR X (binaryOp .Add) rAddA := OpR.or op_add (OpR.or op_add_str op_cat)
theorem opd_add : OpD K (bop .Add) rAddA := by
  intro g H S x y vx vy d Q h rx ry e q
  have e1 : (match dr S x, dr S y with
    | .int i, .int j => some (D.int (i + j))
    | .str a, .str b => if a.length + b.length ≤ sizeLine then some (.str (a ++ b)) else none
    | .lst a, .lst b => if a.length + b.length ≤ sizeLine then some (.lst (a ++ b)) else none
    | _, _ => none) = some d := e
  split at e1
  · rename_i i j hx hy
    cases e1
    exact .inl ⟨i, j, dr_int h rx hx, dr_int h ry hy, q.here h (.int _)⟩
  · rename_i i j hx hy
    by_cases c : i.length + j.length ≤ sizeLine
    · rw [if_pos c] at e1
      cases e1
      exact .inr (.inl ⟨i, j, dr_str h rx hx, dr_str h ry hy, c, q.here h (.str _)⟩)
    · rw [if_neg c] at e1; cases e1
  · rename_i i j hx hy
    by_cases c : i.length + j.length ≤ sizeLine
    · rw [if_pos c] at e1
      cases e1
      obtain ⟨a, vs, rfl, h1, h2⟩ := dr_lst h rx hx
      obtain ⟨b, ws, rfl, h3, h4⟩ := dr_lst h ry hy
      exact .inr (.inr ⟨a, b, vs, ws, rfl, rfl, h1, h3, by rw [h2.length, h4.length]; exact c, fun p hp => q.lst h (h2.append h4) hp⟩)
    · rw [if_neg c] at e1; cases e1
  · cases e1
theorem opd_ii {f : Sto → D → D → Option D} {C : Int → Int → Prop} {k : Int → Int → Option D} {w : Int → Int → V} (hf : ∀ S x y d, f S x y = some d → ∃ i j, x = .int i ∧ y = .int j ∧ C i j ∧ ∀ g, Rp K g d (w i j)) : OpD K f (rI C w) := by
  intro g H S x y vx vy d Q h rx ry e q
  obtain ⟨i, j, rfl, rfl, c, r⟩ := hf S x y d e
  cases rx
  cases ry
  exact ⟨i, j, rfl, rfl, c, q.here h (r g)⟩
theorem opd_i0 {f : Sto → D → D → Option D} {w : Int → Int → V} (hf : ∀ S x y d, f S x y = some d → ∃ i j, x = .int i ∧ y = .int j ∧ ∀ g, Rp K g d (w i j)) : OpD K f (rI0 w) := by
  intro g H S x y vx vy d Q h rx ry e q
  obtain ⟨i, j, rfl, rfl, r⟩ := hf S x y d e
  cases rx
  cases ry
  exact ⟨i, j, rfl, rfl, q.here h (r g)⟩
theorem opd_sub : OpD K (bop .Sub) (rI0 fun i j => .int (i - j)) := opd_i0 fun S x y d e => by
  cases x <;> cases y <;> first | cases e; done | exact ⟨_, _, rfl, rfl, fun g => by cases e; exact .int _⟩
theorem op_fdivA : OpR X (binaryOp .FloorDiv) (rI (fun _ j => divOk j = true) fun i j => .int (i.fdiv j)) := opI fun i j _ _ _ _ _ hc q => by
  obtain ⟨h1, h2⟩ := Bool.and_eq_true_iff.mp hc
  exact floordiv_int (of_decide_eq_true h1) q (.inl (PyProof.noPylong_of_log2 (of_decide_eq_true h2)))
theorem opd_fdiv : OpD K (bop .FloorDiv) (rI (fun _ j => divOk j = true) fun i j => .int (i.fdiv j)) := by
  intro g H S x y vx vy d Q h rx ry e q
  cases x <;> cases y <;> try (cases e; done)
  rename_i i j
  have e1 : (if divOk j = true then some (D.int (i.fdiv j)) else none) = some d := e
  by_cases c : divOk j = true
  · rw [if_pos c] at e1
    cases e1
    cases rx
    cases ry
    exact ⟨i, j, rfl, rfl, c, q.here h (.int _)⟩
  · rw [if_neg c] at e1; cases e1
theorem opd_mod : OpD K (bop .Mod) (rI (fun _ j => j ≠ 0) fun i j => .int (i.fmod j)) := by
  intro g H S x y vx vy d Q h rx ry e q
  cases x <;> cases y <;> try (cases e; done)
  rename_i i j
  have e1 : (if j = 0 then none else some (D.int (i.fmod j))) = some d := e
  by_cases c : j = 0
  · rw [if_pos c] at e1; cases e1
  · rw [if_neg c] at e1
    cases e1
    cases rx
    cases ry
    exact ⟨i, j, rfl, rfl, c, q.here h (.int _)⟩
theorem opd_pow : OpD K (bop .Pow) (rI CPow fun i j => .int (i ^ j.toNat)) := by
  intro g H S x y vx vy d Q h rx ry e q
  cases x <;> cases y <;> try (cases e; done)
  rename_i i j
  have e1 : (if (decide (0 ≤ j) && decide (j.natAbs ≤ 1000000) && decide (i.natAbs < 2 ^ 64)) = true then some (D.int (i ^ j.toNat)) else none) = some d := e
  by_cases c : (decide (0 ≤ j) && decide (j.natAbs ≤ 1000000) && decide (i.natAbs < 2 ^ 64)) = true
  · rw [if_pos c] at e1
    cases e1
    cases rx
    cases ry
    simp only [Bool.and_eq_true, decide_eq_true_eq] at c
    exact ⟨i, j, rfl, rfl, ⟨c.1.1, by have := c.1.2; omega, c.2⟩, q.here h (.int _)⟩
  · rw [if_neg c] at e1; cases e1
theorem mulOk_ok {i j : Int} (h : mulOk i j = true) : IntMulOk i j := by
  unfold mulOk at h
  simp only [Bool.or_eq_true, decide_eq_true_eq] at h
  rcases h with (h | h) | h
  · exact CMul.ok (.inl ⟨by omega, by omega⟩)
  · exact CMul.ok (.inr ⟨by omega, by omega⟩)
  · exact CMulW.ok h
def rMulA : R2 := fun x y H Q => (∃ i j, x = V.int i ∧ y = V.int j ∧ mulOk i j = true ∧ Q (.int (i * j)) H) ∨ rRep x y H Q
theorem op_mulA : OpR X (binaryOp .Mult) rMulA := OpR.or (opI fun _ _ _ _ _ _ _ hc q => mul_int q (mulOk_ok hc)) op_rep
theorem opd_mul : OpD K (bop .Mult) rMulA := by
  intro g H S x y vx vy d Q h rx ry e q
  cases y with
  | int j =>
    cases ry
    have e1 : (match dr S x with
      | .int i => if mulOk i j = true then some (D.int (i * j)) else none
      | .lst a => if (decide (j.natAbs < 2 ^ 62) && decide (a.length * j.toNat ≤ sizeLine)) = true then some (.lst (List.replicate j.toNat a).flatten) else none
      | _ => none) = some d := e
    cases hx : dr S x with
    | int i =>
      rw [hx] at e1
      by_cases c : mulOk i j = true
      · have e2 : some (D.int (i * j)) = some d := by rw [← e1]; exact (if_pos c).symm
        cases e2
        exact .inl ⟨i, j, dr_int h rx hx, rfl, c, q.here h (.int _)⟩
      · have e2 : none = some d := by rw [← e1]; exact (if_neg c).symm
        cases e2
    | lst a =>
      rw [hx] at e1
      by_cases c : (decide (j.natAbs < 2 ^ 62) && decide (a.length * j.toNat ≤ sizeLine)) = true
      · have e2 : some (D.lst (List.replicate j.toNat a).flatten) = some d := by rw [← e1]; exact (if_pos c).symm
        cases e2
        obtain ⟨p, vs, rfl, h1, h2⟩ := dr_lst h rx hx
        simp only [Bool.and_eq_true, decide_eq_true_eq] at c
        exact .inr ⟨p, j, vs, rfl, rfl, h1, by have := c.1; omega, by have := c.1; omega, by rw [h2.length]; exact c.2, fun l hl => q.lst h (h2.flat _) hl⟩
      · have e2 : none = some d := by rw [← e1]; exact (if_neg c).symm
        cases e2
    | _ => rw [hx] at e1; cases e1
  | _ => cases e
/-! ### comparisons -/
theorem opd_lt : OpD K (cop .Lt) (rI0 fun i j => .bl (decide (i < j))) := opd_i0 fun S x y d e => by
  cases x <;> cases y <;> first | cases e; done | exact ⟨_, _, rfl, rfl, fun g => by cases e; exact .bl _⟩
theorem opd_le : OpD K (cop .LtE) (rI0 fun i j => .bl (decide (i ≤ j))) := opd_i0 fun S x y d e => by
  cases x <;> cases y <;> first | cases e; done | exact ⟨_, _, rfl, rfl, fun g => by cases e; exact .bl _⟩
theorem opd_gt : OpD K (cop .Gt) (rI0 fun i j => .bl (decide (j < i))) := opd_i0 fun S x y d e => by
  cases x <;> cases y <;> first | cases e; done | exact ⟨_, _, rfl, rfl, fun g => by cases e; exact .bl _⟩
theorem opd_ge : OpD K (cop .GtE) (rI0 fun i j => .bl (decide (j ≤ i))) := opd_i0 fun S x y d e => by
  cases x <;> cases y <;> first | cases e; done | exact ⟨_, _, rfl, rfl, fun g => by cases e; exact .bl _⟩
theorem eqD_some {x y : D} {b : Bool} (e : eqD S x y = some b) : ∃ p q, pyS S x = some p ∧ pyS S y = some q ∧ b = PyData.eqv p q := by
  unfold eqD at e
  cases h1 : pyS S x with
  | none => rw [h1] at e; cases e
  | some p =>
    rw [h1] at e
    cases h2 : pyS S y with
    | none => rw [h2] at e; cases e
    | some q =>
      rw [h2] at e
      cases e
      exact ⟨p, q, rfl, rfl, rfl⟩
theorem opd_eq : OpD K (cop .Eq) (rEqD K) := by
  intro g H S x y vx vy d Q h rx ry e q
  obtain ⟨b, h1, h2⟩ := Option.map_eq_some_iff.mp (show (eqD S x y).map D.bl = some d from e)
  obtain ⟨p, r, e1, e2, rfl⟩ := eqD_some h1
  subst h2
  exact ⟨p, r, (pyS_dp h rx e1).1, (pyS_dp h ry e2).1, (pyS_dp h rx e1).2, (pyS_dp h ry e2).2, q.here h (.bl _)⟩
theorem opd_ne : OpD K (cop .NotEq) (rNeD K) := by
  intro g H S x y vx vy d Q h rx ry e q
  obtain ⟨b, h1, h2⟩ := Option.map_eq_some_iff.mp (show (eqD S x y).map (fun b => D.bl (!b)) = some d from e)
  obtain ⟨p, r, e1, e2, rfl⟩ := eqD_some h1
  subst h2
  exact ⟨p, r, (pyS_dp h rx e1).1, (pyS_dp h ry e2).1, (pyS_dp h rx e1).2, (pyS_dp h ry e2).2, q.here h (.bl _)⟩
def rInT (K : Frag) : R2 := fun x y H Q => ∃ d ds, Dp K H x d ∧ Dp K H y (.tuple ds) ∧ SeqAt.shaped d = true ∧ SeqAt.shaped (.tuple ds) = true ∧ Q (.bl (ds.any fun z => PyData.eqv z d)) H
def rNotInT (K : Frag) : R2 := fun x y H Q => ∃ d ds, Dp K H x d ∧ Dp K H y (.tuple ds) ∧ SeqAt.shaped d = true ∧ SeqAt.shaped (.tuple ds) = true ∧ Q (.bl (!ds.any fun z => PyData.eqv z d)) H
theorem op_inT (hu : X.A.units + 65 < cLine) : OpR X (compareOp .In) (rInT X.K) := by
  intro pins s σ H x y v u Q I rx ry h
  obtain ⟨d, ds, hd, he, sd, se, q⟩ := h
  obtain ⟨as, r1⟩ := Dp.reads I d x v hd rx
  obtain ⟨bs, r2⟩ := Dp.reads I (.tuple ds) y u he ry
  exact SeqAt.in_tuple_reads r2 r1 (SeqAt.canLay_of_shaped se) (SeqAt.canLay_of_shaped sd) (PyProof.Rows.room_in_shaped sd hu) ⟨.bl _, H, I, rfl, q⟩
theorem op_notInT (hu : X.A.units + 65 < cLine) : OpR X (compareOp .NotIn) (rNotInT X.K) := by
  intro pins s σ H x y v u Q I rx ry h
  obtain ⟨d, ds, hd, he, sd, se, q⟩ := h
  obtain ⟨as, r1⟩ := Dp.reads I d x v hd rx
  obtain ⟨bs, r2⟩ := Dp.reads I (.tuple ds) y u he ry
  exact SeqAt.notIn_tuple_reads r2 r1 (SeqAt.canLay_of_shaped se) (SeqAt.canLay_of_shaped sd) (PyProof.Rows.room_in_shaped sd hu) ⟨.bl _, H, I, rfl, q⟩
theorem inD_some {x y : D} {b : Bool} (e : inD S x y = some b) : ∃ p qs, pyS S x = some p ∧ ((pyS S y = some (.tuple qs)) ∨ pyS S y = some (.list qs)) ∧ b = qs.any fun z => PyData.eqv z p := by
  unfold inD at e
  cases h1 : pyS S x with
  | none => rw [h1] at e; cases e
  | some p =>
    rw [h1] at e
    cases h2 : pyS S y with
    | none => rw [h2] at e; cases e
    | some q =>
      rw [h2] at e
      cases q with
      | tuple qs => cases e; exact ⟨p, qs, rfl, .inl rfl, rfl⟩
      | list qs => cases e; exact ⟨p, qs, rfl, .inr rfl, rfl⟩
      | _ => cases e
theorem opd_in : OpD K (cop .In) (fun x y H Q => rInT K x y H Q ∨ rInD K x y H Q) := by
  intro g H S x y vx vy d Q h rx ry e q
  obtain ⟨b, h1, h2⟩ := Option.map_eq_some_iff.mp (show (inD S x y).map D.bl = some d from e)
  obtain ⟨p, qs, e1, e2 | e2, rfl⟩ := inD_some h1
  · subst h2
    exact .inl ⟨p, qs, (pyS_dp h rx e1).1, (pyS_dp h ry e2).1, (pyS_dp h rx e1).2, (pyS_dp h ry e2).2, q.here h (.bl _)⟩
  · subst h2
    exact .inr ⟨p, qs, (pyS_dp h rx e1).1, (pyS_dp h ry e2).1, (pyS_dp h rx e1).2, (pyS_dp h ry e2).2, q.here h (.bl _)⟩
theorem opd_notIn : OpD K (cop .NotIn) (fun x y H Q => rNotInT K x y H Q ∨ rNotInD K x y H Q) := by
  intro g H S x y vx vy d Q h rx ry e q
  obtain ⟨b, h1, h2⟩ := Option.map_eq_some_iff.mp (show (inD S x y).map (fun b => D.bl (!b)) = some d from e)
  obtain ⟨p, qs, e1, e2 | e2, rfl⟩ := inD_some h1
  · subst h2
    exact .inl ⟨p, qs, (pyS_dp h rx e1).1, (pyS_dp h ry e2).1, (pyS_dp h rx e1).2, (pyS_dp h ry e2).2, q.here h (.bl _)⟩
  · subst h2
    exact .inr ⟨p, qs, (pyS_dp h rx e1).1, (pyS_dp h ry e2).1, (pyS_dp h rx e1).2, (pyS_dp h ry e2).2, q.here h (.bl _)⟩
def isNonD : D → Bool
  | .non => true
  | _ => false
theorem rp_non {x : D} {v : V} (r : Rp K g x v) : decide (v = .non) = isNonD x := by
  cases r <;> rfl
theorem opd_is : OpD K (cop .Is) (fun x y H Q => y = .non ∧ Q (.bl (decide (x = .non))) H) := by
  intro g H S x y vx vy d Q h rx ry e q
  cases y with
  | non =>
    cases ry
    refine ⟨rfl, ?_⟩
    rw [rp_non rx]
    have e2 : D.bl (isNonD x) = d := by cases x <;> exact Option.some.inj e
    subst e2
    exact q.here h (.bl _)
  | _ => cases e
theorem opd_isNot : OpD K (cop .IsNot) (fun x y H Q => y = .non ∧ Q (.bl (!decide (x = .non))) H) := by
  intro g H S x y vx vy d Q h rx ry e q
  cases y with
  | non =>
    cases ry
    refine ⟨rfl, ?_⟩
    rw [rp_non rx]
    have e2 : D.bl (!isNonD x) = d := by cases x <;> exact Option.some.inj e
    subst e2
    exact q.here h (.bl _)
  | _ => cases e
/-! ### subscripts -/
def rIxDc : R2 := fun x y H Q => ∃ a v, x = .ref a ∧ DGet H a y (some v) ∧ Q v H
theorem tail_any {prog : Program} {w : World} {A : Around} {E : Value → Shared → Prop} {s : Shared} {value slice : Expr} {o i : Value} {T id : String} {Q : Value → Shared → Prop} (hT : s.TypeIs o T)
    (hl : typeLookup (.type T) "__getitem__" = pure (some (.builtin id))) (h : wpAny (model prog w) A (getItem o i) Q E s) (hs : subscripted slice false o i = operate [o, i] (getItem o i)) :
    wpAny (model prog w) A (subscriptTail value slice o i) Q E s := by
  unfold subscriptTail
  refine wpAny_bind ?_
  rw [getitemInPython_of_ne hT.not_modules]
  refine wpAny_bind (wpAny_specialOf hT hl ?_)
  have fin : wpAny (model prog w) A (subscripted slice false o i) (fun r s₃ => wpAny (model prog w) A (letTemporaryGo value o r >>= fun _ => pure r) Q E s₃) E s := by
    rw [hs]
    exact wpAny_operating (wpAny_mono h (fun r s₃ h₃ => wpAny_bind (wpAny_letTemporaryGo (wpAny_pure h₃))) fun _ _ x => x)
  first
    | exact wpAny_pure (wpAny_bind fin)
    | exact wpAny_bind (wpAny_pure (wpAny_bind fin))
    | exact wpAny_bind fin
theorem ix_dict (hu : X.A.units + 1 < cLine) : IxR X rIxDc := by
  intro value slice pins s σ H x y v u Q I rx ry h hs
  obtain ⟨a, z, rfl, hg, q⟩ := h
  cases rx
  exact tail_any (dict_typeIs I hg) PySem.F.slot_dict_getitem.lookup (d_getItem hu I hg ry fun w' s3 I3 rw' => ⟨z, H, I3, rw', q⟩) hs
theorem ix_all (hu : X.A.units + 1 < cLine) : IxR X (fun x y H Q => rIxL X.K x y H Q ∨ rIxT X.K x y H Q ∨ rIxDc x y H Q) := IxR.or ix_list (IxR.or ix_tup (ix_dict hu))
def rIxA (K : Frag) : R2 := fun x y H Q => rIxL K x y H Q ∨ rIxT K x y H Q ∨ rIxDc x y H Q
theorem kV_key {k : D} {z : Key} {v : V} (r : Rp K g k v) (e : keyD k = some z) : v = kV z := by
  cases k with
  | int i => cases e; cases r; rfl
  | str x => cases e; cases r; rfl
  | _ => cases e
theorem opd_ix : OpD K ixD (rIxA K) := by
  intro g H S x y vx vy d Q h rx ry e q
  have e1 := e
  unfold ixD at e1
  cases hx : dr S x with
  | lst ds =>
    rw [hx] at e1
    obtain ⟨p, vs, rfl, h1, h2⟩ := dr_lst h rx hx
    cases y with
    | int i =>
      cases ry
      obtain ⟨v, e2, r⟩ := h2.atI e1
      exact .inl ⟨p, vs, i, v, rfl, rfl, SqL.of h1, e2, q.here h r⟩
    | _ => cases e1
  | tup ds =>
    rw [hx] at e1
    obtain ⟨p, vs, rfl, h1, h2⟩ := dr_tup h rx hx
    cases y with
    | int i =>
      cases ry
      obtain ⟨v, e2, r⟩ := h2.atI e1
      exact .inr (.inl ⟨p, vs, i, v, rfl, rfl, h1, e2, q.here h r⟩)
    | _ => cases e1
  | dct kvs =>
    rw [hx] at e1
    obtain ⟨p, vs, rfl, h1, h2⟩ := dr_dct h rx hx
    cases hk : keyD y with
    | none => rw [hk] at e1; cases e1
    | some z =>
      rw [hk] at e1
      obtain ⟨v, e2, r⟩ := h2.look e1
      have ev := kV_key ry hk
      subst ev
      refine .inr (.inr ⟨p, v, rfl, .inl ⟨vs, z, .of h1, rfl, e2.symm⟩, q.here h r⟩)
  | _ => rw [hx] at e1; cases e1
end
end Pv

set_option Elab.async false
set_option linter.all false
set_option maxRecDepth 100000
set_option maxHeartbeats 1000000
/-! Pv, part D: expressions. -/
namespace Pv
open PySem L2
open PyProof.Rows hiding St
open PySem.W (Frag)
/-! ### what is wanted of a result -/
def RpX (K : Frag) (g : G) (c : Str) (fs : List (Str × D)) (cls : Value) (dx : Option Addr) : Prop := cls = .ref (He.ga K c) ∧ ((dx = none ∧ fs = []) ∨ ∃ d vs, dx = some d ∧ g.F d = some (.xd vs) ∧ Rpf K g fs vs)
def Out (K : Frag) (W : WX) (σ : St) (g : G) {α : Type} (r : Res α) (Q : α → Sto → G → Hp → Prop) : Prop := match r with
  | .ok a S => ∀ g' H', G.Le g g' → SR K g' H' S → Q a S g' H'
  | .exc c fs S => ∀ g' H' cls dx, G.Le g g' → SR K g' H' S → RpX K g' c fs cls dx → W cls dx σ H'
  | .bad => False
section
variable {K : Frag} {W : WX} {σ : St} {g g' : G} {α β : Type} {r : Res α} {Q Q' : α → Sto → G → Hp → Prop}
theorem Out.mono (h : Out K W σ g r Q) (l : G.Le g g') : Out K W σ g' r Q := by
  cases r with
  | ok a S => exact fun g'' H' l' s => h g'' H' (l.trans l') s
  | exc c fs S => exact fun g'' H' cls dx l' s x => h g'' H' cls dx (l.trans l') s x
  | bad => exact h
theorem Out.imp (h : Out K W σ g r Q) (i : ∀ a S g' H', G.Le g g' → SR K g' H' S → Q a S g' H' → Q' a S g' H') : Out K W σ g r Q' := by
  cases r with
  | ok a S => exact fun g'' H' l' s => i a S g'' H' l' s (h g'' H' l' s)
  | exc c fs S => exact h
  | bad => exact h
theorem Out.bind {k : α → Sto → Res β} {R : β → Sto → G → Hp → Prop} (h : Out K W σ g (r.bind k) R) : Out K W σ g r (fun a S g' _ => Out K W σ g' (k a S) R) := by
  cases r with
  | ok a S => exact fun g' H' l _ => Out.mono (r := k a S) h l
  | exc c fs S => exact h
  | bad => exact h
theorem Out.opt {o : Option α} {S : Sto} (h : Out K W σ g (opt o S) Q) : ∃ a, o = some a ∧ ∀ g' H', G.Le g g' → SR K g' H' S → Q a S g' H' := by
  cases o with
  | none => exact h.elim
  | some a => exact ⟨a, rfl, h⟩
end
/-- the readings -/
def tD (K : Frag) (W : WX) (r : DE) : TE := fun σ H Q => ∃ g env S, SR K g H S ∧ Slots K g env σ ∧ Out K W σ g (r env S) fun d _ g' H' => ∀ v, Rp K g' d v → Q v H'
def tB (K : Frag) (W : WX) (r : DT) : TT := fun σ H Q => ∃ g env S, SR K g H S ∧ Slots K g env σ ∧ Out K W σ g (r env S) fun b _ _ H' => Q b H'
def tAs (K : Frag) (W : WX) (r : DA) : TA := fun σ H Q => ∃ g env S, SR K g H S ∧ Slots K g env σ ∧ Out K W σ g (r env S) fun ds _ g' H' => ∀ vs, Rps K g' ds vs → Q vs H'
theorem PE.imp {X : Cx} {e : Expr} {t t' : TE} (h : PE X e t) (i : ∀ σ H Q, t' σ H Q → t σ H Q) : PE X e t' := ⟨fun pins s σ H Q I q => h.run pins s σ H Q I (i σ H Q q)⟩
theorem PT.imp {X : Cx} {e : Expr} {t t' : TT} (h : PT X e t) (i : ∀ σ H Q, t' σ H Q → t σ H Q) : PT X e t' := ⟨fun pins s σ H Q I q => h.run pins s σ H Q I (i σ H Q q)⟩
theorem PW.imp {X : Cx} {e : Expr} {t t' : TT} (h : PW X e t) (i : ∀ σ H Q, t' σ H Q → t σ H Q) : PW X e t' := ⟨fun wh pins s σ H Q I q => h.run wh pins s σ H Q I (i σ H Q q)⟩
theorem PA.imp {X : Cx} {e : List Expr} {t t' : TA} (h : PA X e t) (i : ∀ σ H Q, t' σ H Q → t σ H Q) : PA X e t' := ⟨fun pos pins s σ H Q I q => h.run pos pins s σ H Q I (i σ H Q q)⟩
theorem PE.bad {X : Cx} {e : Expr} {K : Frag} {W : WX} : PE X e (tD K W eBad) := ⟨fun _ _ _ _ _ _ h => let ⟨_, _, _, _, _, z⟩ := h; z.elim⟩
theorem PA.bad {X : Cx} {e : List Expr} {K : Frag} {W : WX} : PA X e (tAs K W fun _ _ => .bad) := ⟨fun _ _ _ _ _ _ _ h => let ⟨_, _, _, _, _, z⟩ := h; z.elim⟩
theorem PT.bad {X : Cx} {e : Expr} {K : Frag} {W : WX} : PT X e (tB K W tBad) := ⟨fun _ _ _ _ _ _ h => let ⟨_, _, _, _, _, z⟩ := h; z.elim⟩
theorem PW.bad {X : Cx} {e : Expr} {K : Frag} {W : WX} : PW X e (tB K W tBad) := ⟨fun _ _ _ _ _ _ _ h => let ⟨_, _, _, _, _, z⟩ := h; z.elim⟩
section
variable {X : Cx} {K : Frag} {W : WX} {a b c : Expr} {ra rb : DE} {es : List Expr} {rs : DA} {pos : Pos} {tc : DT}
theorem tD.cst {v : V} {d : D} (hd : ∀ g, Rp K g d v) {σ : St} {H : Hp} {Q : VK} (h : tD K W (eC d) σ H Q) : tC v σ H Q := by
  obtain ⟨g, env, S, sr, sl, o⟩ := h
  exact o g H (G.Le.refl g) sr v (hd g)
theorem de_const {cn : Const} {j : Nat} : PE X (.Constant cn j pos) (tD K W (dConst cn)) := by
  cases cn with
  | int i => exact PE.imp pe_int fun σ H Q h => tD.cst (fun _ => .int i) h
  | bool i => exact PE.imp pe_bl fun σ H Q h => tD.cst (fun _ => .bl i) h
  | none => exact PE.imp pe_non fun σ H Q h => tD.cst (fun _ => .non) h
  | str i => exact PE.imp pe_str fun σ H Q h => tD.cst (fun _ => .str i) h
  | _ => exact PE.bad
theorem de_var {i : Nat} {x : Str} (hN : X.N[i]? = some x) (hv : Vis X.env.scope x) (hd : (x == ("__debug__" : Str)) = false) (hcd : (x == ("__classdict__" : Str)) = false) : PE X (.Name x pos) (tD K W (eVar i)) :=
  PE.imp (pe_var hN hv hd hcd) fun σ H Q ⟨g, env, S, sr, sl, o⟩ => by
    unfold eVar at o
    cases e : env[i]? with
    | none => rw [e] at o; exact o.elim
    | some z =>
      cases z with
      | none => rw [e] at o; exact o.elim
      | some d =>
        rw [e] at o
        obtain ⟨v, h1, h2⟩ := sl.get i d e
        exact ⟨v, h1, o g H (G.Le.refl g) sr v h2⟩
/-- two in a row -/
theorem tD.two {σ : St} {H : Hp} {R : V → V → Hp → Prop} {g : G} {env : Ev} {S : Sto} {k : D → D → Sto → Res D} {Q : VK} (sr : SR K g H S) (sl : Slots K g env σ)
    (o : Out K W σ g ((ra env S).bind fun x S1 => (rb env S1).bind fun y S2 => k x y S2) fun d _ g' H' => ∀ v, Rp K g' d v → Q v H')
    (f : ∀ x y S2 g' H' vx vy, G.Le g g' → SR K g' H' S2 → Rp K g' x vx → Rp K g' y vy → (Out K W σ g' (k x y S2) fun d _ g'' H'' => ∀ v, Rp K g'' d v → Q v H'') → R vx vy H') :
    tD K W ra σ H fun x H1 => tD K W rb σ H1 fun y H2 => R x y H2 := by
  refine ⟨g, env, S, sr, sl, (Out.bind o).imp fun x S1 g1 H1 l1 s1 o1 vx rx => ?_⟩
  refine ⟨g1, env, S1, s1, sl.mono l1, (Out.bind o1).imp fun y S2 g2 H2 l2 s2 o2 vy ry => ?_⟩
  exact f x y S2 g2 H2 vx vy (l1.trans l2) s2 (rx.mono l2) ry o2
theorem tD.op {f : Sto → D → D → Option D} {r : R2} (hd : OpD K f r) {σ : St} {H : Hp} {Q : VK} (h : tD K W (eBin f ra rb) σ H Q) : tOp r (tD K W ra) (tD K W rb) σ H Q := by
  obtain ⟨g, env, S, sr, sl, o⟩ := h
  refine tD.two (R := fun x y H2 => r x y H2 Q) sr sl o fun x y S2 g' H' vx vy l s rx ry o2 => ?_
  obtain ⟨d, e, q⟩ := Out.opt o2
  exact hd g' H' S2 x y vx vy d Q s rx ry e fun g'' H'' v l'' s'' rv => q g'' H'' l'' s'' v rv
theorem de_bin {op : Operator} {f : Sto → D → D → Option D} {r : R2} (ho : OpR X (binaryOp op) r) (hd : OpD K f r) (ha : PE X a (tD K W ra)) (hb : PE X b (tD K W rb)) : PE X (.BinOp a op b pos) (tD K W (eBin f ra rb)) :=
  PE.imp (pe_op ho ha hb) fun _ _ _ h => tD.op hd h
theorem de_cmp {op : CmpOp} {f : Sto → D → D → Option D} {r : R2} (ho : OpR X (compareOp op) r) (hd : OpD K f r) (ha : PE X a (tD K W ra)) (hb : PE X b (tD K W rb)) (hm : behindInMarks op b = false) : PE X (.Compare a [op] [b] pos) (tD K W (eBin f ra rb)) :=
  PE.imp (pe_cmpR ho ha hb hm) fun _ _ _ h => tD.op hd h
theorem de_ix (hu : X.A.units + 1 < cLine) (hK : X.K = K) (ha : PE X a (tD K W ra)) (hb : PE X b (tD K W rb)) (hs : PlainIx b) : PE X (.Subscript a b pos) (tD K W (eBin ixD ra rb)) := by
  subst hK
  exact PE.imp (pe_ix (ix_all hu) ha hb hs) fun _ _ _ h => tD.op opd_ix h
theorem de_neg (ha : PE X a (tD K W ra)) : PE X (.UnaryOp .USub a pos) (tD K W (eNeg ra)) := PE.imp (pe_un un_neg ha) fun σ H Q ⟨g, env, S, sr, sl, o⟩ => by
  refine ⟨g, env, S, sr, sl, (Out.bind o).imp fun x S1 g1 H1 l1 s1 o1 v r => ?_⟩
  cases x with
  | int i =>
    cases r
    exact ⟨i, rfl, o1 g1 H1 (G.Le.refl _) s1 _ (.int _)⟩
  | _ => exact o1.elim
/-! ### truth -/
theorem tru_of {g : G} {H : Hp} {S : Sto} (h : SR K g H S) {x : D} {v : V} (r : Rp K g x v) {k : Bool} (e : truth S x = some k) : TruV K v H k := by
  unfold truth at e
  cases hx : dr S x with
  | non =>
    rw [hx] at e
    rcases dr_self h r with q | ⟨_, _, ⟨_, z⟩ | ⟨_, z⟩⟩
    · rw [hx] at q; cases q; exact (Option.some.inj e).symm
    · rw [hx] at z; cases z
    · rw [hx] at z; cases z
  | bl b =>
    rw [hx] at e
    rcases dr_self h r with q | ⟨_, _, ⟨_, z⟩ | ⟨_, z⟩⟩
    · rw [hx] at q; cases q; exact (Option.some.inj e).symm
    · rw [hx] at z; cases z
    · rw [hx] at z; cases z
  | int i =>
    rw [hx] at e
    have := dr_int h r hx
    subst this
    exact (Option.some.inj e).symm
  | str y =>
    rw [hx] at e
    have := dr_str h r hx
    subst this
    by_cases c : y.length ≤ sizeLine
    · have e2 : some (y.length != 0) = some k := by rw [← e]; exact (if_pos c).symm
      refine ⟨c, ?_⟩
      rw [← Option.some.inj e2]
      cases hn : y.length with
      | zero => rfl
      | succ n =>
        have : (((n + 1 : Nat) : Int) != 0) = true := by
          simp only [bne_iff_ne, ne_eq]; omega
        rw [this]; rfl
    · have e2 : none = some k := by rw [← e]; exact (if_neg c).symm
      cases e2
  | tup ds =>
    rw [hx] at e
    obtain ⟨p, vs, rfl, h1, h2⟩ := dr_tup h r hx
    refine .inr (.inl ⟨vs, h1, ?_⟩)
    rw [← Option.some.inj e]
    cases h2 <;> rfl
  | lst ds =>
    rw [hx] at e
    obtain ⟨p, vs, rfl, h1, h2⟩ := dr_lst h r hx
    refine .inl ⟨vs, SqL.of h1, ?_⟩
    rw [← Option.some.inj e]
    cases h2 <;> rfl
  | dct ds =>
    rw [hx] at e
    obtain ⟨p, vs, rfl, h1, h2⟩ := dr_dct h r hx
    refine .inr (.inr ⟨vs, h1, ?_⟩)
    rw [← Option.some.inj e]
    cases h2 <;> rfl
  | scr ns => rw [hx] at e; cases e
  | ins c fs => rw [hx] at e; cases e
  | mu i => rw [hx] at e; cases e
theorem de_not (hK : X.K = K) (ha : PE X a (tD K W ra)) : PE X (.UnaryOp .Not a pos) (tD K W (eNot ra)) := PE.imp (pe_notT ha) fun σ H Q ⟨g, env, S, sr, sl, o⟩ => by
  refine ⟨g, env, S, sr, sl, (Out.bind o).imp fun x S1 g1 H1 l1 s1 o1 v r => ?_⟩
  obtain ⟨k, e, q⟩ := Out.opt (Out.bind o1)
  have q1 := q g1 H1 (G.Le.refl _) s1
  refine ⟨k, by rw [hK]; exact tru_of s1 r e, q1 g1 H1 (G.Le.refl _) s1 _ (.bl _)⟩
theorem de_one {op : BoolOp} (ha : PE X a (tD K W ra)) : PE X (.BoolOp op [a] pos) (tD K W ra) := pe_one ha
theorem de_and (hK : X.K = K) (ha : PE X a (tD K W ra)) (hb : PE X (.BoolOp .And (b :: es) pos) (tD K W rb)) : PE X (.BoolOp .And (a :: b :: es) pos) (tD K W (eAnd ra rb)) := PE.imp (pe_andT ha hb) fun σ H Q ⟨g, env, S, sr, sl, o⟩ => by
  refine ⟨g, env, S, sr, sl, (Out.bind o).imp fun x S1 g1 H1 l1 s1 o1 v r => ?_⟩
  obtain ⟨k, e, q⟩ := Out.opt (Out.bind o1)
  have q1 := q g1 H1 (G.Le.refl _) s1
  refine ⟨k, by rw [hK]; exact tru_of s1 r e, ?_⟩
  cases k with
  | true => exact ⟨g1, env, S1, s1, sl.mono l1, q1⟩
  | false => exact q1 g1 H1 (G.Le.refl _) s1 v r
theorem de_or (hK : X.K = K) (ha : PE X a (tD K W ra)) (hb : PE X (.BoolOp .Or (b :: es) pos) (tD K W rb)) : PE X (.BoolOp .Or (a :: b :: es) pos) (tD K W (eOr ra rb)) := PE.imp (pe_orT ha hb) fun σ H Q ⟨g, env, S, sr, sl, o⟩ => by
  refine ⟨g, env, S, sr, sl, (Out.bind o).imp fun x S1 g1 H1 l1 s1 o1 v r => ?_⟩
  obtain ⟨k, e, q⟩ := Out.opt (Out.bind o1)
  have q1 := q g1 H1 (G.Le.refl _) s1
  refine ⟨k, by rw [hK]; exact tru_of s1 r e, ?_⟩
  cases k with
  | true => exact q1 g1 H1 (G.Le.refl _) s1 v r
  | false => exact ⟨g1, env, S1, s1, sl.mono l1, q1⟩
theorem de_if (hc : PT X c (tB K W tc)) (ha : PE X a (tD K W ra)) (hb : PE X b (tD K W rb)) : PE X (.IfExp c a b pos) (tD K W (eIf tc ra rb)) := PE.imp (pe_ifExp hc ha hb) fun σ H Q ⟨g, env, S, sr, sl, o⟩ => by
  refine ⟨g, env, S, sr, sl, (Out.bind o).imp fun k S1 g1 H1 l1 s1 o1 => ?_⟩
  cases k with
  | true => exact ⟨g1, env, S1, s1, sl.mono l1, o1⟩
  | false => exact ⟨g1, env, S1, s1, sl.mono l1, o1⟩
/-! ### tests -/
theorem dt_of (hK : X.K = K) (ha : PE X a (tD K W ra)) (he : ∀ whole, isTrue a X.env whole = (do let v ← whole; standAt a.pos; holding [v] (truthy v))) : PT X a (tB K W (tOf ra)) := PT.imp (pt_truth ha he) fun σ H Q ⟨g, env, S, sr, sl, o⟩ => by
  refine ⟨g, env, S, sr, sl, (Out.bind o).imp fun x S1 g1 H1 l1 s1 o1 v r => ?_⟩
  obtain ⟨k, e, q⟩ := Out.opt o1
  exact ⟨k, by rw [hK]; exact tru_of s1 r e, q g1 H1 (G.Le.refl _) s1⟩
theorem cop_bl {op : CmpOp} {S : Sto} {x y d : D} (e : cop op S x y = some d) : ∃ k, d = .bl k := by
  cases op with
  | Lt => cases x <;> cases y <;> first | cases e; done | exact ⟨_, (Option.some.inj e).symm⟩
  | LtE => cases x <;> cases y <;> first | cases e; done | exact ⟨_, (Option.some.inj e).symm⟩
  | Gt => cases x <;> cases y <;> first | cases e; done | exact ⟨_, (Option.some.inj e).symm⟩
  | GtE => cases x <;> cases y <;> first | cases e; done | exact ⟨_, (Option.some.inj e).symm⟩
  | Eq => obtain ⟨k, _, h⟩ := Option.map_eq_some_iff.mp (show (eqD S x y).map D.bl = some d from e); exact ⟨k, h.symm⟩
  | NotEq => obtain ⟨k, _, h⟩ := Option.map_eq_some_iff.mp (show (eqD S x y).map (fun b => D.bl (!b)) = some d from e); exact ⟨!k, h.symm⟩
  | In => obtain ⟨k, _, h⟩ := Option.map_eq_some_iff.mp (show (inD S x y).map D.bl = some d from e); exact ⟨k, h.symm⟩
  | NotIn => obtain ⟨k, _, h⟩ := Option.map_eq_some_iff.mp (show (inD S x y).map (fun b => D.bl (!b)) = some d from e); exact ⟨!k, h.symm⟩
  | Is => cases y <;> first | cases e; done | exact ⟨_, (Option.some.inj e).symm⟩
  | IsNot => cases y <;> first | cases e; done | exact ⟨_, (Option.some.inj e).symm⟩
theorem dt_cmp {op : CmpOp} {r : R2} (ho : OpR X (compareOp op) r) (hd : OpD K (cop op) r) (ha : PE X a (tD K W ra)) (hb : PE X b (tD K W rb)) (hm : behindInMarks op b = false) : PT X (.Compare a [op] [b] pos) (tB K W (tOf (eBin (cop op) ra rb))) :=
  PT.imp (pt_cmpR ho ha hb hm) fun σ H Q ⟨g, env, S, sr, sl, o⟩ => by
    have o' : Out K W σ g ((ra env S).bind fun x S1 => (rb env S1).bind fun y S2 => (opt (cop op S2 x y) S2).bind fun z S3 => opt (truth S3 z) S3) fun b _ _ H' => Q b H' := by
      have e : tOf (eBin (cop op) ra rb) env S = ((ra env S).bind fun x S1 => (rb env S1).bind fun y S2 => (opt (cop op S2 x y) S2).bind fun z S3 => opt (truth S3 z) S3) := by
        show (((ra env S).bind fun x S1 => (rb env S1).bind fun y S2 => opt (cop op S2 x y) S2).bind fun z S3 => opt (truth S3 z) S3) = _
        cases ra env S with
        | ok x S1 =>
          show (((rb env S1).bind fun y S2 => opt (cop op S2 x y) S2).bind fun z S3 => opt (truth S3 z) S3) = ((rb env S1).bind fun y S2 => (opt (cop op S2 x y) S2).bind fun z S3 => opt (truth S3 z) S3)
          cases rb env S1 <;> rfl
        | exc c fs S1 => rfl
        | bad => rfl
      rw [← e]
      exact o
    refine ⟨g, env, S, sr, sl, (Out.bind o').imp fun x S1 g1 H1 l1 s1 o1 vx rx => ?_⟩
    refine ⟨g1, env, S1, s1, sl.mono l1, (Out.bind o1).imp fun y S2 g2 H2 l2 s2 o2 vy ry => ?_⟩
    obtain ⟨d, e, q⟩ := Out.opt (Out.bind o2)
    obtain ⟨k, rfl⟩ := cop_bl e
    refine hd g2 H2 S2 x y vx vy _ _ s2 (rx.mono l2) ry e fun g3 H3 v l3 s3 rv => ?_
    cases rv
    exact ⟨k, rfl, q g3 H3 l3 s3 g3 H3 (G.Le.refl _) s3⟩
theorem dt_not (ha : PT X a (tB K W tc)) : PT X (.UnaryOp .Not a pos) (tB K W (tNt tc)) := PT.imp (pt_not ha) fun σ H Q ⟨g, env, S, sr, sl, o⟩ =>
  ⟨g, env, S, sr, sl, (Out.bind o).imp fun k S1 g1 H1 l1 s1 o1 => o1 g1 H1 (G.Le.refl _) s1⟩
theorem dw_one {op : BoolOp} (ha : PT X a (tB K W tc)) : PW X (.BoolOp op [a] pos) (tB K W tc) := by
  cases op with
  | And => exact pw_and1 ha
  | Or => exact pw_or1 ha
theorem dw_and {tb : DT} (ha : PT X a (tB K W tc)) (hb : PW X (.BoolOp .And (b :: es) pos) (tB K W tb)) : PW X (.BoolOp .And (a :: b :: es) pos) (tB K W (tAn tc tb)) := PW.imp (pw_and ha hb) fun σ H Q ⟨g, env, S, sr, sl, o⟩ => by
  refine ⟨g, env, S, sr, sl, (Out.bind o).imp fun k S1 g1 H1 l1 s1 o1 => ?_⟩
  cases k with
  | true => exact ⟨g1, env, S1, s1, sl.mono l1, o1⟩
  | false => exact o1 g1 H1 (G.Le.refl _) s1
theorem dw_or {tb : DT} (ha : PT X a (tB K W tc)) (hb : PW X (.BoolOp .Or (b :: es) pos) (tB K W tb)) : PW X (.BoolOp .Or (a :: b :: es) pos) (tB K W (tO tc tb)) := PW.imp (pw_or ha hb) fun σ H Q ⟨g, env, S, sr, sl, o⟩ => by
  refine ⟨g, env, S, sr, sl, (Out.bind o).imp fun k S1 g1 H1 l1 s1 o1 => ?_⟩
  cases k with
  | true => exact o1 g1 H1 (G.Le.refl _) s1
  | false => exact ⟨g1, env, S1, s1, sl.mono l1, o1⟩
/-! ### argument lists, displays -/
theorem noStar_each {e : Expr} (h : noStar e = true) (es : List Expr) (env : Env) : starEach (e :: es) env = (false, eval e env) :: starEach es env := by
  cases e <;> first | rfl | cases h
theorem da_nil : PA X [] (tAs K W aNil) := PA.imp pa_nil fun σ H Q ⟨g, env, S, sr, sl, o⟩ => o g H (G.Le.refl _) sr [] .nil
theorem da_cons (hs : noStar a = true) (ha : PE X a (tD K W ra)) (hr : PA X es (tAs K W rs)) : PA X (a :: es) (tAs K W (aCons ra rs)) := PA.imp (pa_cons ha hr (noStar_each hs es X.env)) fun σ H Q ⟨g, env, S, sr, sl, o⟩ => by
  refine ⟨g, env, S, sr, sl, (Out.bind o).imp fun x S1 g1 H1 l1 s1 o1 vx rx => ?_⟩
  refine ⟨g1, env, S1, s1, sl.mono l1, (Out.bind o1).imp fun xs S2 g2 H2 l2 s2 o2 vs rvs => ?_⟩
  exact o2 g2 H2 (G.Le.refl _) s2 _ (.cons (rx.mono l2) rvs)
theorem de_tup {k : Nat} (h : PA X es (tAs K W rs)) : PE X (.Tuple es k pos) (tD K W (eTup rs)) := PE.imp (pe_tup h) fun σ H Q ⟨g, env, S, sr, sl, o⟩ => by
  refine ⟨g, env, S, sr, sl, (Out.bind o).imp fun xs S1 g1 H1 l1 s1 o1 vs rvs => ?_⟩
  by_cases c : xs.length ≤ sizeLine
  · have o2 : Out K W σ g1 (Res.ok (D.tup xs) S1) fun d _ g' H' => ∀ v, Rp K g' d v → Q v H' := by rw [← (if_pos c : (if xs.length ≤ sizeLine then Res.ok (D.tup xs) S1 else .bad) = _)]; exact o1
    refine ⟨by rw [rvs.length]; exact c, fun p hp => ?_⟩
    exact Give.tup (fun g' H' v l s r => o2 g' H' l s v r) s1 rvs hp
  · have o2 : Out K W σ g1 (Res.bad : Res D) fun d _ g' H' => ∀ v, Rp K g' d v → Q v H' := by rw [← (if_neg c : (if xs.length ≤ sizeLine then Res.ok (D.tup xs) S1 else .bad) = _)]; exact o1
    exact o2.elim
theorem de_lst (h : PA X es (tAs K W rs)) : PE X (.List es pos) (tD K W (eLst rs)) := PE.imp (pe_lst h) fun σ H Q ⟨g, env, S, sr, sl, o⟩ => by
  refine ⟨g, env, S, sr, sl, (Out.bind o).imp fun xs S1 g1 H1 l1 s1 o1 vs rvs => ?_⟩
  by_cases c : xs.length ≤ sizeLine
  · have o2 : Out K W σ g1 (Res.ok (D.lst xs) S1) fun d _ g' H' => ∀ v, Rp K g' d v → Q v H' := by rw [← (if_pos c : (if xs.length ≤ sizeLine then Res.ok (D.lst xs) S1 else .bad) = _)]; exact o1
    refine ⟨by rw [rvs.length]; exact c, fun p hp => ?_⟩
    exact Give.lst (fun g' H' v l s r => o2 g' H' l s v r) s1 rvs hp
  · have o2 : Out K W σ g1 (Res.bad : Res D) fun d _ g' H' => ∀ v, Rp K g' d v → Q v H' := by rw [← (if_neg c : (if xs.length ≤ sizeLine then Res.ok (D.lst xs) S1 else .bad) = _)]; exact o1
    exact o2.elim
/-- the new thing's own place in the store -/
theorem own_at {g : G} {H : Hp} {S : Sto} (h : SR K g H S) {p : Addr} : (g.own p).a[S.length]? = some p := by
  show (g.a ++ [p])[S.length]? = some p
  rw [← h.len]
  simp
theorem de_mlst (h : PA X es (tAs K W rs)) : PE X (.List es pos) (tD K W (mLst rs)) := PE.imp (pe_lst h) fun σ H Q ⟨g, env, S, sr, sl, o⟩ => by
  refine ⟨g, env, S, sr, sl, (Out.bind o).imp fun xs S1 g1 H1 l1 s1 o1 vs rvs => ?_⟩
  by_cases c : (decide (xs.length ≤ sizeLine) && noMus xs) = true
  · have o2 : Out K W σ g1 (Res.ok (D.mu S1.length) (S1 ++ [.lst xs])) fun d _ g' H' => ∀ v, Rp K g' d v → Q v H' := by rw [← (if_pos c : (if (decide (xs.length ≤ sizeLine) && noMus xs) = true then Res.ok (D.mu S1.length) (S1 ++ [.lst xs]) else .bad) = _)]; exact o1
    obtain ⟨c1, c2⟩ := Bool.and_eq_true_iff.mp c
    refine ⟨by rw [rvs.length]; exact of_decide_eq_true c1, fun p hp => ?_⟩
    refine o2 (g1.own p) _ own_le (s1.own hp (o := .lst vs) ⟨(s1.fresh hp).1, (s1.fresh hp).2, vs, upd_same, rvs.mono own_le, c2⟩) _ (.mu (own_at s1))
  · have o2 : Out K W σ g1 (Res.bad : Res D) fun d _ g' H' => ∀ v, Rp K g' d v → Q v H' := by rw [← (if_neg c : (if (decide (xs.length ≤ sizeLine) && noMus xs) = true then Res.ok (D.mu S1.length) (S1 ++ [.lst xs]) else .bad) = _)]; exact o1
    exact o2.elim
end
end Pv

set_option Elab.async false
set_option linter.all false
set_option maxRecDepth 100000
set_option maxHeartbeats 1000000
/-! Pv, part E: dicts, slices, fields, built-in functions. -/
namespace Pv
open PySem L2
open PyProof.Rows hiding St
open PySem.W (Frag)
section
variable {X : Cx} {K : Frag} {W : WX} {a b c : Expr} {ra rb : DE} {es : List Expr} {rs : DA} {pos : Pos} {tc : DT}
/-! ### dict displays -/
/-- an object that is kept as it is while other things are reckoned -/
def G.hold (g : G) (p : Addr) (o : HO) : G := { g with k := upd g.k p o }
def G.drop (g : G) (p : Addr) : G := { g with k := fun b => if b = p then none else g.k b }
theorem hold_le {g : G} {p : Addr} {o : HO} (hp : g.k p = none) : G.Le g (g.hold p o) :=
  ⟨fun _ _ e => e, fun a u e => by show upd g.k p o a = some u; rw [upd_ne (fun z => by rw [z, hp] at e; cases e)]; exact e, fun _ _ e => e⟩
theorem SR.hold {g : G} {H : Hp} {S : Sto} (h : SR K g H S) {p : Addr} (hp : H p = none) (o : HO) : SR K (g.hold p o) (upd H p o) S := by
  obtain ⟨fp, kp⟩ := h.fresh hp
  refine ⟨fun a u e => ?_, fun a u e => ?_, fun a u e => ?_, h.len, fun i m a e1 e2 => ?_, h.ap⟩
  · have e' : g.F a = some u := e
    rw [upd_ne (fun z => by rw [z, fp] at e'; cases e')]
    exact h.f a u e'
  · by_cases c : a = p
    · subst c
      have e' : upd g.k a o a = some u := e
      rw [upd_same] at e' ⊢
      exact e'
    · have e' : upd g.k p o a = some u := e
      rw [upd_ne c] at e' ⊢
      exact h.k a u e'
  · by_cases c : a = p
    · rw [c]; exact fp
    · have e' : upd g.k p o a = some u := e
      rw [upd_ne c] at e'
      exact h.kf a u e'
  · refine (h.m i m a e1 e2).keep (hold_le kp) (fun u hu lv => ?_) (fun u hu _ => ?_)
    · have ne : a ≠ p := fun z => by rw [z, hp] at hu; cases hu
      have q := (h.m i m a e1 e2).free lv
      exact ⟨q.1, by show upd g.k p o a = none; rw [upd_ne ne]; exact q.2.1⟩
    · rw [upd_ne (fun z => by rw [z, hp] at hu; cases hu)]
      exact hu
/-- the kept object becomes one of the fixed ones -/
theorem SR.settle {g : G} {H : Hp} {S : Sto} (h : SR K g H S) {p : Addr} {o : HO} (o' : HO) (hk : g.k p = some o) : SR K ((g.drop p).lay p o') (upd H p o') S := by
  have hF := h.kf p o hk
  have lF : ∀ a u, g.F a = some u → ((g.drop p).lay p o').F a = some u := fun a u e => by
    show upd g.F p o' a = some u
    rw [upd_ne (fun z => by rw [z, hF] at e; cases e)]
    exact e
  refine ⟨fun a u e => ?_, fun a u e => ?_, fun a u e => ?_, h.len, fun i m a e1 e2 => ?_, h.ap⟩
  · by_cases c : a = p
    · subst c
      have e' : upd g.F a o' a = some u := e
      rw [upd_same] at e' ⊢
      exact e'
    · have e' : upd g.F p o' a = some u := e
      rw [upd_ne c] at e' ⊢
      exact h.f a u e'
  · have e' : (if a = p then none else g.k a) = some u := e
    by_cases c : a = p
    · rw [if_pos c] at e'; cases e'
    · rw [if_neg c] at e'
      rw [upd_ne c]
      exact h.k a u e'
  · have e' : (if a = p then none else g.k a) = some u := e
    by_cases c : a = p
    · rw [if_pos c] at e'; cases e'
    · rw [if_neg c] at e'
      show upd g.F p o' a = none
      rw [upd_ne c]
      exact h.kf a u e'
  · have ne : live m = true → a ≠ p := fun lv z => by
      have q := ((h.m i m a e1 e2).free lv).2.1
      rw [z, hk] at q
      cases q
    refine (h.m i m a e1 e2).keepF lF (fun _ _ e => e) (fun u hu lv => ?_) (fun u hu lv => ?_)
    · have q := (h.m i m a e1 e2).free lv
      refine ⟨by show upd g.F p o' a = none; rw [upd_ne (ne lv)]; exact q.1, ?_⟩
      show (if a = p then none else g.k a) = none
      rw [if_neg (ne lv)]
      exact q.2.1
    · rw [upd_ne (ne lv)]
      exact hu
theorem settle_le {g g0 : G} {p : Addr} {o' : HO} (hF : g.F p = none) (h0 : g0.k p = none) (l : G.Le g0 g) : G.Le g0 ((g.drop p).lay p o') := by
  refine ⟨fun a u e => ?_, fun a u e => ?_, l.a⟩
  · show upd g.F p o' a = some u
    have e1 := l.F a u e
    rw [upd_ne (fun z => by rw [z, hF] at e1; cases e1)]
    exact e1
  · show (if a = p then none else g.k a) = some u
    rw [if_neg (fun y => by rw [y, h0] at e; cases e)]
    exact l.k a u e
/-- the kept object becomes a mutable one -/
theorem SR.take_up {g : G} {H : Hp} {S : Sto} (h : SR K g H S) {p : Addr} {o : HO} (o' : HO) (hk : g.k p = some o) {m : MO} (hm : MOk K ((g.drop p).own p) (upd H p o') p m) : SR K ((g.drop p).own p) (upd H p o') (S ++ [m]) := by
  have hF := h.kf p o hk
  have old : ∀ {i : Nat} {a : Addr} {m : MO}, g.a[i]? = some a → S[i]? = some m → live m = true → a ≠ p := fun {i a m} e1 e2 lv z => by
    have q := ((h.m i m a e2 e1).free lv).2.1
    rw [z, hk] at q
    cases q
  refine ⟨fun a u e => ?_, fun a u e => ?_, fun a u e => ?_, ?_, fun i m' a e1 e2 => ?_, fun i j a m1 m2 e1 e2 e3 e4 l1 l2 => ?_⟩
  · have e' : g.F a = some u := e
    rw [upd_ne (fun z => by rw [z, hF] at e'; cases e')]
    exact h.f a u e'
  · have e' : (if a = p then none else g.k a) = some u := e
    by_cases c : a = p
    · rw [if_pos c] at e'; cases e'
    · rw [if_neg c] at e'
      rw [upd_ne c]
      exact h.k a u e'
  · have e' : (if a = p then none else g.k a) = some u := e
    by_cases c : a = p
    · rw [if_pos c] at e'; cases e'
    · rw [if_neg c] at e'
      exact h.kf a u e'
  · show (g.a ++ [p]).length = (S ++ [m]).length
    rw [List.length_append, List.length_append, h.len]
    rfl
  · rcases getElem?_snoc e1 with q1 | ⟨q1, q1'⟩
    · rcases getElem?_snoc (show (g.a ++ [p])[i]? = some a from e2) with q2 | ⟨q2, _⟩
      · refine (h.m i m' a q1 q2).keepF (fun _ _ e => e) (own_le (g := g) (p := p)).a (fun u hu lv => ?_) (fun u hu lv => ?_)
        · have q := (h.m i m' a q1 q2).free lv
          refine ⟨q.1, ?_⟩
          show (if a = p then none else g.k a) = none
          rw [if_neg (old q2 q1 lv)]
          exact q.2.1
        · rw [upd_ne (old q2 q1 lv)]
          exact hu
      · have := (List.getElem?_eq_some_iff.mp q1).1
        rw [q2, h.len] at this
        omega
    · rcases getElem?_snoc (show (g.a ++ [p])[i]? = some a from e2) with q2 | ⟨_, q2⟩
      · have := (List.getElem?_eq_some_iff.mp q2).1
        rw [q1, h.len] at this
        omega
      · subst q1' q2
        exact hm
  · rcases getElem?_snoc (show (g.a ++ [p])[i]? = some a from e1) with q1 | ⟨q1, q1'⟩
    · rcases getElem?_snoc (show (g.a ++ [p])[j]? = some a from e2) with q2 | ⟨q2, q2'⟩
      · have i1 := (List.getElem?_eq_some_iff.mp q1).1
        have i2 := (List.getElem?_eq_some_iff.mp q2).1
        rw [h.len] at i1 i2
        rw [List.getElem?_append_left i1] at e3
        rw [List.getElem?_append_left i2] at e4
        exact h.ap i j a m1 m2 q1 q2 e3 e4 l1 l2
      · have i1 := (List.getElem?_eq_some_iff.mp q1).1
        rw [h.len] at i1
        rw [List.getElem?_append_left i1] at e3
        exact absurd q2' (old q1 e3 l1)
    · rcases getElem?_snoc (show (g.a ++ [p])[j]? = some a from e2) with q2 | ⟨q2, q2'⟩
      · have i2 := (List.getElem?_eq_some_iff.mp q2).1
        rw [h.len] at i2
        rw [List.getElem?_append_left i2] at e4
        exact absurd q1' (old q2 e4 l2)
      · rw [q1, q2]
theorem take_le {g g0 : G} {p : Addr} (h0 : g0.k p = none) (l : G.Le g0 g) : G.Le g0 ((g.drop p).own p) := by
  refine ⟨l.F, fun a u e => ?_, fun i x e => (own_le (g := g) (p := p)).a i x (l.a i x e)⟩
  show (if a = p then none else g.k a) = some u
  rw [if_neg (fun y => by rw [y, h0] at e; cases e)]
  exact l.k a u e
/-! the pairs -/
inductive Rpp (K : Frag) (g : G) : List (D × D) → List (V × V) → Prop
  | nil : Rpp K g [] []
  | cons {x y : D} {v w : V} {ps : List (D × D)} {qs : List (V × V)} : Rp K g x v → Rp K g y w → Rpp K g ps qs → Rpp K g ((x, y) :: ps) ((v, w) :: qs)
theorem Rpp.mono {g g' : G} (l : G.Le g g') : ∀ {ps : List (D × D)} {qs : List (V × V)}, Rpp K g ps qs → Rpp K g' ps qs
  | _, _, .nil => .nil
  | _, _, .cons a b r => .cons (a.mono l) (b.mono l) (Rpp.mono l r)
theorem Rpp.keyed {g : G} : ∀ {ps : List (D × D)} {qs : List (V × V)} {kvs : List (Key × D)}, Rpp K g ps qs → Pv.keyed ps = some kvs → ∃ kws : List (L2.Key × V), qs = kws.map (fun kv => (kV kv.1, kv.2)) ∧ Rpk K g kvs kws ∧ kws.length = kvs.length
  | _, _, _, .nil, e => by cases e; exact ⟨[], rfl, .nil, rfl⟩
  | _, _, kvs, .cons (x := x) (y := y) (v := v) (w := w) (ps := ps) a b r, e => by
    have e1 : (match keyD x with
      | some z => (match Pv.keyed ps with
        | some q => some ((z, y) :: q)
        | none => none)
      | none => none) = some kvs := e
    cases hk : keyD x with
    | none => rw [hk] at e1; cases e1
    | some z =>
      rw [hk] at e1
      cases hr : Pv.keyed ps with
      | none => rw [hr] at e1; cases e1
      | some q =>
        rw [hr] at e1
        cases e1
        obtain ⟨kws, h1, h2, h3⟩ := Rpp.keyed r hr
        refine ⟨(z, w) :: kws, ?_, .cons b h2, by rw [List.length_cons, List.length_cons, h3]⟩
        rw [List.map_cons, ← h1, kV_key a hk]
inductive PPd (X : Cx) (K : Frag) (W : WX) (pos : Pos) : List (Option Expr) → List Expr → List (DE × DE) → Prop
  | nil : PPd X K W pos [] [] []
  | cons {k v : Expr} {ks : List (Option Expr)} {vs : List Expr} {rk rv : DE} {rs : List (DE × DE)} : PE X k (tD K W rk) → PE X v (tD K W rv) → PPd X K W pos ks vs rs → PPd X K W pos (some k :: ks) (v :: vs) ((rk, rv) :: rs)
theorem PPd.pps : ∀ {ks : List (Option Expr)} {vs : List Expr} {rs : List (DE × DE)}, PPd X K W pos ks vs rs → PPs X pos ks vs (rs.map fun r => (tD K W r.1, tD K W r.2))
  | _, _, _, .nil => pps_nil
  | _, _, _, .cons a b r => pps_cons a b (PPd.pps r)
theorem PPd.len : ∀ {ks : List (Option Expr)} {vs : List Expr} {rs : List (DE × DE)}, PPd X K W pos ks vs rs → ks.all (·.isSome) = true ∧ ks.length = vs.length ∧ rs.length = ks.length
  | _, _, _, .nil => ⟨rfl, rfl, rfl⟩
  | _, _, _, .cons a b r => ⟨by rw [List.all_cons, (PPd.len r).1]; rfl, congrArg Nat.succ (PPd.len r).2.1, congrArg Nat.succ (PPd.len r).2.2⟩
theorem pairs_go {σ : St} : ∀ (rs : List (DE × DE)) {g : G} {env : Ev} {S : Sto} {H : Hp} {Q : List (V × V) → Hp → Prop}, SR K g H S → Slots K g env σ →
    (Out K W σ g (aPairs rs env S) fun ps _ g' H' => ∀ qs, Rpp K g' ps qs → Q qs H') → tPairs (rs.map fun r => (tD K W r.1, tD K W r.2)) σ H Q
  | [], g, env, S, H, Q, sr, sl, o => o g H (G.Le.refl _) sr [] .nil
  | (ra, rb) :: rs, g, env, S, H, Q, sr, sl, o => by
    refine ⟨g, env, S, sr, sl, (Out.bind o).imp fun x S1 g1 H1 l1 s1 o1 vx rx => ?_⟩
    refine ⟨g1, env, S1, s1, sl.mono l1, (Out.bind o1).imp fun y S2 g2 H2 l2 s2 o2 vy ry => ?_⟩
    refine pairs_go rs s2 (sl.mono (l1.trans l2)) ((Out.bind o2).imp fun ps S3 g3 H3 l3 s3 o3 qs rq => ?_)
    exact o3 g3 H3 (G.Le.refl _) s3 _ (.cons (rx.mono (l2.trans l3)) (ry.mono l3) rq)
theorem aPairs_len : ∀ (rs : List (DE × DE)) {env : Ev} {S S' : Sto} {ps : List (D × D)}, aPairs rs env S = .ok ps S' → ps.length = rs.length
  | [], _, _, _, _, e => by cases e; rfl
  | (ra, rb) :: rs, env, S, S', ps, e => by
    have e1 : ((ra env S).bind fun x S1 => (rb env S1).bind fun y S2 => (aPairs rs env S2).bind fun ps S3 => .ok ((x, y) :: ps) S3) = .ok ps S' := e
    cases h1 : ra env S with
    | ok x S1 =>
      rw [h1] at e1
      have e2 : ((rb env S1).bind fun y S2 => (aPairs rs env S2).bind fun ps S3 => .ok ((x, y) :: ps) S3) = .ok ps S' := e1
      cases h2 : rb env S1 with
      | ok y S2 =>
        rw [h2] at e2
        have e3 : ((aPairs rs env S2).bind fun ps S3 => .ok ((x, y) :: ps) S3) = .ok ps S' := e2
        cases h3 : aPairs rs env S2 with
        | ok qs S3 =>
          rw [h3] at e3
          cases e3
          exact congrArg Nat.succ (aPairs_len rs h3)
        | exc _ _ _ => rw [h3] at e3; cases e3
        | bad => rw [h3] at e3; cases e3
      | exc _ _ _ => rw [h2] at e2; cases e2
      | bad => rw [h2] at e2; cases e2
    | exc _ _ _ => rw [h1] at e1; cases e1
    | bad => rw [h1] at e1; cases e1
theorem de_disp {ks : List (Option Expr)} {vs : List Expr} {prs : List (DE × DE)} {r : DE} (h : PPd X K W pos ks vs prs) (h0 : ks ≠ []) (h15 : ks.length ≤ 15)
    (fin : ∀ (σ : St) (H : Hp) (Q : VK) (g : G) (env : Ev) (S : Sto), SR K g H S → Slots K g env σ → (Out K W σ g (r env S) fun d _ g' H' => ∀ v, Rp K g' d v → Q v H') → ∀ p, H p = none →
      Out K W σ (g.hold p (.dK [])) (aPairs prs env S) fun ps S1 g1 H1 => ∀ qs, Rpp K g1 ps qs → g1.k p = some (.dK []) → H1 p = some (.dK []) ∧ ∃ kvs : List (L2.Key × V), qs = kvs.map (fun kv => (kV kv.1, kv.2)) ∧ kvs.length ≤ 15 ∧ Q (.ref p) (upd H1 p (.dK (mergeK [] kvs)))) :
    PE X (.Dict ks vs pos) (tD K W r) := by
  obtain ⟨l1, l2, l3⟩ := h.len
  refine PE.imp (pe_disp h.pps l1 l2 h0 h15) fun σ H Q ⟨g, env, S, sr, sl, o⟩ p hp => ?_
  have lh := hold_le (o := .dK []) (sr.fresh hp).2
  refine pairs_go prs (sr.hold hp (.dK [])) (sl.mono lh) ((fin σ H Q g env S sr sl o p hp).imp fun ps S1 g1 H1 le s1 q qs rq => ?_)
  exact q qs rq (le.k p _ upd_same)
theorem drop_sr {g : G} {H : Hp} {S : Sto} (h : SR K g H S) (p : Addr) : SR K (g.drop p) H S := by
  have lk : ∀ a u, (g.drop p).k a = some u → g.k a = some u := fun a u e => by
    have e' : (if a = p then none else g.k a) = some u := e
    by_cases c : a = p
    · rw [if_pos c] at e'; cases e'
    · rw [if_neg c] at e'; exact e'
  refine ⟨h.f, fun a u e => h.k a u (lk a u e), fun a u e => h.kf a u (lk a u e), h.len, fun i m a e1 e2 => ?_, h.ap⟩
  refine (h.m i m a e1 e2).keepF (fun _ _ e => e) (fun _ _ e => e) (fun u hu lv => ?_) (fun u hu _ => hu)
  have q := (h.m i m a e1 e2).free lv
  refine ⟨q.1, ?_⟩
  show (if a = p then none else g.k a) = none
  split
  · rfl
  · exact q.2.1
theorem drop_le {g g0 : G} {p : Addr} (h0 : g0.k p = none) (l : G.Le g0 g) : G.Le g0 (g.drop p) := ⟨l.F, fun a u e => by
  show (if a = p then none else g.k a) = some u
  rw [if_neg (fun y => by rw [y, h0] at e; cases e)]
  exact l.k a u e, l.a⟩
/-- a display: what the pairs come to, then what is made of them -/
theorem de_dispK {ks : List (Option Expr)} {vs : List Expr} {prs : List (DE × DE)} {k : List (Key × D) → Sto → Res D} (h : PPd X K W pos ks vs prs) (h0 : ks ≠ []) (h15 : ks.length ≤ 15)
    (fin : ∀ (σ : St) (Q : VK) (g1 : G) (H1 : Hp) (S1 : Sto) (kvs : List (Key × D)) (kws : List (L2.Key × V)) (p : Addr), SR K g1 H1 S1 → g1.k p = some (.dK []) → Rpk K (g1.drop p) kvs kws → kvs.length ≤ 15 → (Out K W σ (g1.drop p) (k kvs S1) fun d _ g' H' => ∀ v, Rp K g' d v → Q v H') → Q (.ref p) (upd H1 p (.dK (mergeK [] kws)))) :
    PE X (.Dict ks vs pos) (tD K W fun env S => (aPairs prs env S).bind fun xs S1 => (opt (keyed xs) S1).bind fun kvs S2 => if kvs.length ≤ 15 then k kvs S2 else .bad) := by
  refine de_disp h h0 h15 fun σ H Q g env S sr sl o p hp => ?_
  obtain ⟨fp, kp⟩ := sr.fresh hp
  cases hr : aPairs prs env S with
  | bad => rw [hr] at o; exact o.elim
  | exc c fs S1 => rw [hr] at o; exact Out.mono (r := Res.exc c fs S1) o (hold_le kp)
  | ok ps S1 =>
    rw [hr] at o
    intro g1 H1 le s1 qs rq hk
    have lg : G.Le g (g1.drop p) := drop_le kp ((hold_le kp).trans le)
    have o1 : Out K W σ (g1.drop p) ((opt (keyed ps) S1).bind fun kvs S2 => if kvs.length ≤ 15 then k kvs S2 else .bad) fun d _ g' H' => ∀ v, Rp K g' d v → Q v H' := Out.mono (r := (opt (keyed ps) S1).bind fun kvs S2 => if kvs.length ≤ 15 then k kvs S2 else .bad) o lg
    obtain ⟨kvs, e, q⟩ := Out.opt (Out.bind o1)
    have q1 := q (g1.drop p) H1 (G.Le.refl _) (drop_sr s1 p)
    obtain ⟨kws, h1, h2, h3⟩ := rq.keyed e
    by_cases c : kvs.length ≤ 15
    · rw [if_pos c] at q1
      exact ⟨s1.k p _ hk, kws, h1, by rw [h3]; exact c, fin σ Q g1 H1 S1 kvs kws p s1 hk (Rpk.moF (g := g1) (g' := g1.drop p) (fun _ _ e => e) (fun _ _ e => e) h2) c q1⟩
    · rw [if_neg c] at q1
      exact q1.elim
theorem de_dct {ks : List (Option Expr)} {vs : List Expr} {prs : List (DE × DE)} (h : PPd X K W pos ks vs prs) (h0 : ks ≠ []) (h15 : ks.length ≤ 15) : PE X (.Dict ks vs pos) (tD K W (eDct prs)) := by
  refine de_dispK (k := fun kvs S2 => .ok (.dct (mergeD [] kvs)) S2) h h0 h15 fun σ Q g1 H1 S1 kvs kws p s1 hk r c o => ?_
  have fp : (g1.drop p).F p = none := s1.kf p _ hk
  exact o _ _ (lay_le fp) (s1.settle _ hk) _ (.dct upd_same (Rpk.merge (r.mono (lay_le fp)) .nil))
theorem de_mdct {ks : List (Option Expr)} {vs : List Expr} {prs : List (DE × DE)} (h : PPd X K W pos ks vs prs) (h0 : ks ≠ []) (h15 : ks.length ≤ 15) : PE X (.Dict ks vs pos) (tD K W (mDct prs)) := by
  refine de_dispK (k := fun kvs S2 => if noMuk (mergeD [] kvs) = true then .ok (.mu S2.length) (S2 ++ [.dct (mergeD [] kvs)]) else .bad) h h0 h15 fun σ Q g1 H1 S1 kvs kws p s1 hk r c o => ?_
  by_cases z : noMuk (mergeD [] kvs) = true
  · rw [if_pos z] at o
    have fp : (g1.drop p).F p = none := s1.kf p _ hk
    refine o _ _ own_le (s1.take_up (.dK (mergeK [] kws)) hk ⟨fp, ?_, _, upd_same, Rpk.merge (r.mono own_le) .nil, z⟩) _ (.mu (own_at (drop_sr s1 p)))
    show (if p = p then none else g1.k p) = none
    rw [if_pos rfl]
  · rw [if_neg z] at o
    exact o.elim
theorem de_dnew : PE X (.Dict [] [] pos) (tD K W (eDct [])) := PE.imp pe_dnewK fun σ H Q ⟨g, env, S, sr, sl, o⟩ p hp => by
  have o1 : Out K W σ g (Res.ok (D.dct []) S) fun d _ g' H' => ∀ v, Rp K g' d v → Q v H' := o
  exact o1 _ _ (lay_le (sr.fresh hp).1) (sr.lay hp (.dK [])) _ (.dct upd_same .nil)
theorem de_mdnew : PE X (.Dict [] [] pos) (tD K W (mDct [])) := PE.imp pe_dnewK fun σ H Q ⟨g, env, S, sr, sl, o⟩ p hp => by
  have o1 : Out K W σ g (Res.ok (D.mu S.length) (S ++ [.dct []])) fun d _ g' H' => ∀ v, Rp K g' d v → Q v H' := o
  exact o1 _ _ own_le (sr.own hp (o := .dK []) ⟨(sr.fresh hp).1, (sr.fresh hp).2, [], upd_same, .nil, rfl⟩) _ (.mu (own_at sr))
/-! ### slices -/
theorem cutV_rps {g : G} {ds : List D} {vs : List V} (r : Rps K g ds vs) (lo hi : Option Int) : Rps K g (cutD ds lo hi) (cutV vs lo hi) := by
  unfold cutD L2.cutV
  rw [r.length]
  exact (r.drop _).take _
inductive POd (X : Cx) (K : Frag) (W : WX) : Option Expr → Option DE → Prop
  | none : POd X K W none none
  | some {e : Expr} {r : DE} : PE X e (tD K W r) → POd X K W (some e) (some r)
def tOd (K : Frag) (W : WX) (o : Option DE) : TO := fun σ H Q => ∃ g env S, SR K g H S ∧ Slots K g env σ ∧ Out K W σ g (optI o env S) fun i _ _ H' => Q i H'
theorem POd.po {e : Option Expr} {r : Option DE} (h : POd X K W e r) : PO X e (tOd K W r) := by
  cases h with
  | none => exact ⟨fun pins s σ H Q I ⟨g, env, S, sr, sl, o⟩ => po_none.run pins s σ H Q I (o g H (G.Le.refl _) sr)⟩
  | some h =>
    refine ⟨fun pins s σ H Q I ⟨g, env, S, sr, sl, o⟩ => (po_some h).run pins s σ H Q I ?_⟩
    refine ⟨g, env, S, sr, sl, (Out.bind o).imp fun x S1 g1 H1 l1 s1 o1 v r => ?_⟩
    cases x with
    | int i => cases r; exact ⟨i, rfl, o1 g1 H1 (G.Le.refl _) s1⟩
    | _ => exact o1.elim
theorem de_sl {lo hi : Option Expr} {rl rh : Option DE} {p2 : Pos} (hK : X.K = K) (ha : PE X a (tD K W ra)) (hl : POd X K W lo rl) (hh : POd X K W hi rh) : PE X (.Subscript a (.Slice lo hi none p2) pos) (tD K W (eSl ra rl rh)) := by
  subst hK
  refine PE.imp (pe_slice sl_list ha hl.po hh.po) fun σ H Q ⟨g, env, S, sr, sl, o⟩ => ?_
  refine ⟨g, env, S, sr, sl, (Out.bind o).imp fun x S1 g1 H1 l1 s1 o1 vx rx => ?_⟩
  refine ⟨g1, env, S1, s1, sl.mono l1, (Out.bind o1).imp fun lo S2 g2 H2 l2 s2 o2 => ?_⟩
  refine ⟨g2, env, S2, s2, sl.mono (l1.trans l2), (Out.bind o2).imp fun hi S3 g3 H3 l3 s3 o3 => ?_⟩
  obtain ⟨d, e, q⟩ := Out.opt o3
  have r := rx.mono (l2.trans l3)
  unfold slD at e
  cases hx : dr S3 x with
  | lst ds =>
    rw [hx] at e
    cases e
    obtain ⟨p, vs, rfl, h1, h2⟩ := dr_lst s3 r hx
    exact ⟨p, vs, rfl, SqL.of h1, fun l hl => Give.lst (fun g' H' v l s r => q g' H' l s v r) s3 (cutV_rps h2 lo hi) hl⟩
  | scr ns =>
    rw [hx] at e
    cases e
    obtain ⟨p, rfl, h1⟩ := dr_scr s3 r hx
    exact ⟨p, _, rfl, h1, fun l hl => Give.lst (fun g' H' v l s r => q g' H' l s v r) s3 (cutV_rps (Rps.ints ns) lo hi) hl⟩
  | _ => rw [hx] at e; cases e
/-! ### built-in functions -/
def BiD (K : Frag) (x : Str) (r : List V → Hp → VK → Prop) : Prop := ∀ (g : G) (H : Hp) (S : Sto) (ds : List D) (vs : List V) (d : D) (Q : VK), SR K g H S → Rps K g ds vs → bi x S ds = some d → Give K g S d Q → r vs H Q
theorem tD.bi {x : Str} {r : List V → Hp → VK → Prop} (hd : BiD K x r) {σ : St} {H : Hp} {Q : VK} (h : tD K W (eBi x rs) σ H Q) : tCB r (tAs K W rs) σ H Q := by
  obtain ⟨g, env, S, sr, sl, o⟩ := h
  refine ⟨g, env, S, sr, sl, (Out.bind o).imp fun xs S1 g1 H1 l1 s1 o1 vs rvs => ?_⟩
  obtain ⟨d, e, q⟩ := Out.opt o1
  exact hd g1 H1 S1 xs vs d Q s1 rvs e fun g' H' v l s rv => q g' H' l s v rv
theorem star_any : ∀ {es : List Expr}, es.all noStar = true → ∀ (env : Env) (pos : Pos), (backTo pos (starEach es env)).any (·.1) = false
  | [], _, _, _ => rfl
  | e :: es, h, env, pos => by
    obtain ⟨h1, h2⟩ := Bool.and_eq_true_iff.mp (show (noStar e && es.all noStar) = true from h)
    rw [noStar_each h1 es env]
    show (false || (backTo pos (starEach es env)).any (·.1)) = false
    rw [star_any h2 env pos]
    rfl
theorem de_callB {x : Str} {id : String} {r : List V → Hp → VK → Prop} {e : Expr} {p : Pos} (hc : CallR X (.builtin id) r) (hd : BiD K x r) (hg : Gl X x) (hm : X.mg x = none) (hv : bootBuiltins x = some (.builtin id)) (hs : (e :: es).all noStar = true) (ha : PA X (e :: es) (tAs K W rs)) (hn : x ≠ "__name__") (hdb : (x == ("__debug__" : Str)) = false) :
    PE X (.Call (.Name x p) (e :: es) [] pos) (tD K W (eBi x rs)) := by
  obtain ⟨h1, h2⟩ := Bool.and_eq_true_iff.mp (show (noStar e && es.all noStar) = true from hs)
  exact PE.imp (pe_callB hc hg hm hv ha hn hdb (noStar_each h1 es X.env) (star_any h2 X.env pos)) fun _ _ _ h => tD.bi hd h
theorem de_callTy {x : Str} {T : String} {r : List V → Hp → VK → Prop} {e : Expr} {p : Pos} (hc : CallR X (.type T) r) (hd : BiD K x r) (hg : Gl X x) (hm : X.mg x = none) (hv : bootBuiltins x = some (.type T)) (hs : (e :: es).all noStar = true) (ha : PA X (e :: es) (tAs K W rs)) (hn : x ≠ "__name__") (hdb : (x == ("__debug__" : Str)) = false) :
    PE X (.Call (.Name x p) (e :: es) [] pos) (tD K W (eBi x rs)) := by
  obtain ⟨h1, h2⟩ := Bool.and_eq_true_iff.mp (show (noStar e && es.all noStar) = true from hs)
  exact PE.imp (pe_callTy hc hg hm hv ha hn hdb (noStar_each h1 es X.env) (star_any h2 X.env pos)) fun _ _ _ h => tD.bi hd h
theorem rps1 {g : G} {d : D} {vs : List V} (r : Rps K g [d] vs) : ∃ v, vs = [v] ∧ Rp K g d v := by
  cases r with
  | cons h t => cases t; exact ⟨_, rfl, h⟩
theorem rps2 {g : G} {d d' : D} {vs : List V} (r : Rps K g [d, d'] vs) : ∃ v w, vs = [v, w] ∧ Rp K g d v ∧ Rp K g d' w := by
  cases r with
  | cons h t =>
    obtain ⟨w, rfl, hw⟩ := rps1 t
    exact ⟨_, _, rfl, h, hw⟩
/-! what each takes -/
theorem biInt_some {ds : List D} {d : D} (e : biInt ds = some d) : (∃ i, ds = [.int i] ∧ d = .int i) ∨ ∃ b, ds = [.bl b] ∧ d = .int (if b then 1 else 0) := by
  unfold biInt at e
  split at e
  · exact .inl ⟨_, rfl, (Option.some.inj e).symm⟩
  · exact .inr ⟨_, rfl, (Option.some.inj e).symm⟩
  · cases e
theorem bi_int : BiD K "int" (fun xs H Q => (∃ i, xs = [.int i] ∧ Q (.int i) H) ∨ ∃ k, xs = [.bl k] ∧ Q (.int (if k then 1 else 0)) H) := by
  intro g H S ds vs d Q sr r e q
  rcases biInt_some (ds := ds) (d := d) e with ⟨i, rfl, rfl⟩ | ⟨b, rfl, rfl⟩
  · obtain ⟨v, rfl, h⟩ := rps1 r
    cases h
    exact .inl ⟨i, rfl, q.here sr (.int _)⟩
  · obtain ⟨v, rfl, h⟩ := rps1 r
    cases h
    exact .inr ⟨b, rfl, q.here sr (.int _)⟩
theorem biAbs_some {ds : List D} {d : D} (e : biAbs ds = some d) : ∃ i, ds = [.int i] ∧ d = .int (if i < 0 then -i else i) := by
  unfold biAbs at e
  split at e
  · exact ⟨_, rfl, (Option.some.inj e).symm⟩
  · cases e
theorem bi_abs : BiD K "abs" (fun xs H Q => ∃ i, xs = [.int i] ∧ Q (.int (if i < 0 then -i else i)) H) := by
  intro g H S ds vs d Q sr r e q
  obtain ⟨i, rfl, rfl⟩ := biAbs_some (ds := ds) (d := d) e
  obtain ⟨v, rfl, h⟩ := rps1 r
  cases h
  exact ⟨i, rfl, q.here sr (.int _)⟩
theorem biMin_some {ds : List D} {d : D} (e : biMin ds = some d) : ∃ i j, ds = [.int i, .int j] ∧ d = .int (if j < i then j else i) := by
  unfold biMin at e
  split at e
  · exact ⟨_, _, rfl, (Option.some.inj e).symm⟩
  · cases e
theorem bi_min : BiD K "min" (fun xs H Q => ∃ i j, xs = [.int i, .int j] ∧ Q (.int (if j < i then j else i)) H) := by
  intro g H S ds vs d Q sr r e q
  obtain ⟨i, j, rfl, rfl⟩ := biMin_some (ds := ds) (d := d) e
  obtain ⟨v, w, rfl, h, h'⟩ := rps2 r
  cases h
  cases h'
  exact ⟨i, j, rfl, q.here sr (.int _)⟩
theorem biMax_some {ds : List D} {d : D} (e : biMax ds = some d) : ∃ i j, ds = [.int i, .int j] ∧ d = .int (if j > i then j else i) := by
  unfold biMax at e
  split at e
  · exact ⟨_, _, rfl, (Option.some.inj e).symm⟩
  · cases e
theorem bi_max : BiD K "max" (fun xs H Q => ∃ i j, xs = [.int i, .int j] ∧ Q (.int (if j > i then j else i)) H) := by
  intro g H S ds vs d Q sr r e q
  obtain ⟨i, j, rfl, rfl⟩ := biMax_some (ds := ds) (d := d) e
  obtain ⟨v, w, rfl, h, h'⟩ := rps2 r
  cases h
  cases h'
  exact ⟨i, j, rfl, q.here sr (.int _)⟩
theorem biDivmod_some {ds : List D} {d : D} (e : biDivmod ds = some d) : ∃ i j, ds = [.int i, .int j] ∧ 0 < j ∧ j.natAbs.log2 < 9000 ∧ d = .tup [.int (i / j), .int (i % j)] := by
  unfold biDivmod at e
  split at e
  · split at e
    · rename_i c
      simp only [Bool.and_eq_true, decide_eq_true_eq] at c
      exact ⟨_, _, rfl, c.1, c.2, (Option.some.inj e).symm⟩
    · cases e
  · cases e
theorem bi_divmod : BiD K "divmod" (fun xs H Q => ∃ i j, xs = [.int i, .int j] ∧ CDivP i j ∧ ∀ p, H p = none → Q (.ref p) (upd H p (.tup [.int (i / j), .int (i % j)]))) := by
  intro g H S ds vs d Q sr r e q
  obtain ⟨i, j, rfl, h1, h2, rfl⟩ := biDivmod_some (ds := ds) (d := d) e
  obtain ⟨v, w, rfl, h, h'⟩ := rps2 r
  cases h
  cases h'
  exact ⟨i, j, rfl, ⟨h1, PyProof.noPylong_of_log2 h2⟩, fun p hp => q.tup sr (.cons (.int _) (.cons (.int _) .nil)) hp⟩
theorem biLen_some {S : Sto} {ds : List D} {d : D} (e : biLen S ds = some d) : ∃ x, ds = [x] ∧ ((∃ xs, dr S x = .lst xs ∧ d = .int xs.length) ∨ (∃ xs, dr S x = .tup xs ∧ d = .int xs.length) ∨ ∃ ns, dr S x = .scr ns ∧ d = .int ns.length) := by
  unfold biLen at e
  split at e
  · refine ⟨_, rfl, ?_⟩
    split at e
    · rename_i h
      exact .inl ⟨_, h, (Option.some.inj e).symm⟩
    · rename_i h
      exact .inr (.inl ⟨_, h, (Option.some.inj e).symm⟩)
    · rename_i h
      exact .inr (.inr ⟨_, h, (Option.some.inj e).symm⟩)
    · cases e
  · cases e
theorem bi_len : BiD K "len" (fun xs H Q => ∃ x n, xs = [x] ∧ LenV K x H n ∧ Q (.int n) H) := by
  intro g H S ds vs d Q sr r e q
  obtain ⟨x, rfl, h⟩ := biLen_some (S := S) (ds := ds) (d := d) e
  obtain ⟨v, rfl, hr⟩ := rps1 r
  rcases h with ⟨xs, hx, rfl⟩ | ⟨xs, hx, rfl⟩ | ⟨ns, hx, rfl⟩
  · obtain ⟨p, vs, rfl, h1, h2⟩ := dr_lst sr hr hx
    refine ⟨_, vs.length, rfl, .inl ⟨vs, SqL.of h1, rfl⟩, ?_⟩
    rw [h2.length]
    exact q.here sr (.int _)
  · obtain ⟨p, vs, rfl, h1, h2⟩ := dr_tup sr hr hx
    refine ⟨_, vs.length, rfl, .inr ⟨vs, h1, rfl⟩, ?_⟩
    rw [h2.length]
    exact q.here sr (.int _)
  · obtain ⟨p, rfl, h1⟩ := dr_scr sr hr hx
    refine ⟨_, ns.length, rfl, .inl ⟨_, h1, by rw [List.length_map]⟩, ?_⟩
    exact q.here sr (.int _)
theorem biList_some {S : Sto} {ds : List D} {d : D} (e : biList S ds = some d) : ∃ x, ds = [x] ∧ ((∃ xs, dr S x = .lst xs ∧ d = .lst xs) ∨ ∃ xs, dr S x = .tup xs ∧ d = .lst xs) := by
  unfold biList at e
  split at e
  · refine ⟨_, rfl, ?_⟩
    split at e
    · rename_i h
      exact .inl ⟨_, h, (Option.some.inj e).symm⟩
    · rename_i h
      exact .inr ⟨_, h, (Option.some.inj e).symm⟩
    · cases e
  · cases e
theorem bi_list : BiD K "list" (fun xs H Q => ∃ p ys, xs = [.ref p] ∧ (SqL K H p ys ∨ SqT K H p ys) ∧ ∀ l, H l = none → Q (.ref l) (upd H l (.lst ys))) := by
  intro g H S ds vs d Q sr r e q
  obtain ⟨x, rfl, h⟩ := biList_some (S := S) (ds := ds) (d := d) e
  obtain ⟨v, rfl, hr⟩ := rps1 r
  rcases h with ⟨xs, hx, rfl⟩ | ⟨xs, hx, rfl⟩
  · obtain ⟨p, vs, rfl, h1, h2⟩ := dr_lst sr hr hx
    exact ⟨p, vs, rfl, .inl (SqL.of h1), fun l hl => q.lst sr h2 hl⟩
  · obtain ⟨p, vs, rfl, h1, h2⟩ := dr_tup sr hr hx
    exact ⟨p, vs, rfl, .inr h1, fun l hl => q.lst sr h2 hl⟩
theorem de_bi {x : Str} {e : Expr} {p : Pos} (hK : X.K = K) (hc : X.calm = true) (hx : biNames.contains x = true) (hg : Gl X x) (hm : X.mg x = none) (hs : (e :: es).all noStar = true) (ha : PA X (e :: es) (tAs K W rs)) : PE X (.Call (.Name x p) (e :: es) [] pos) (tD K W (eBi x rs)) := by
  subst hK
  have hx' : x ∈ biNames := List.contains_iff_mem.mp hx
  simp only [biNames, List.mem_cons, List.not_mem_nil, or_false] at hx'
  rcases hx' with rfl | rfl | rfl | rfl | rfl | rfl | rfl
  · exact de_callTy call_int1 bi_int hg hm (by decide +kernel) hs ha (by decide +kernel) (by decide +kernel)
  · exact de_callB call_len bi_len hg hm (by decide +kernel) hs ha (by decide +kernel) (by decide +kernel)
  · exact de_callB call_abs bi_abs hg hm (by decide +kernel) hs ha (by decide +kernel) (by decide +kernel)
  · exact de_callB (call_min2 hc) bi_min hg hm (by decide +kernel) hs ha (by decide +kernel) (by decide +kernel)
  · exact de_callB (call_max2 hc) bi_max hg hm (by decide +kernel) hs ha (by decide +kernel) (by decide +kernel)
  · exact de_callTy call_list_of bi_list hg hm (by decide +kernel) hs ha (by decide +kernel) (by decide +kernel)
  · exact de_callB call_divmodW bi_divmod hg hm (by decide +kernel) hs ha (by decide +kernel) (by decide +kernel)
end
end Pv

set_option Elab.async false
set_option linter.all false
set_option maxRecDepth 100000
set_option maxHeartbeats 1000000
/-! Pv, part F: fields, isinstance, calls. -/
namespace Pv
open PySem L2
open PyProof.Rows hiding St
open PySem.W (Frag)
theorem base_of {o : Expr} (h : isSup o = false) (f : Str) (env : Env) (w : Sem Value) : attributeBase o f env w = w := by
  cases o with
  | Call fn args kws pos =>
    cases fn with
    | Name x p =>
      cases args with
      | nil =>
        cases kws with
        | nil =>
          have hx : (x == ("super" : Str)) = false := h
          have hx2 : (x != ("super" : Str)) = true := by rw [bne, hx]; rfl
          unfold attributeBase
          simp only [hx2, Bool.true_or, if_true, bind_pure]
        | cons _ _ => rfl
      | cons _ _ => rfl
    | _ => rfl
  | _ => rfl
theorem meth_tree {o : Expr} {m : Str} {apos pos : Pos} {args : List Expr} (env : Env) (ho : isSup o = false) (hs : args.all noStar = true) (hl : (apos.endLine == pos.line) = true) (h30 : args.length < 29) :
    eval (.Call (.Attribute o m apos) args [] pos) env = (do
      let ov ← eval o env
      standAt apos.atName
      let (f, first) ← holding [ov] (getMethod ov m (do return (← importBound o env).getD true))
      callWith pos f first (backTo pos (starEach args env)) (backToKw pos (keywordEach [] env))) := by
  have hall : ∀ (es : List Expr), es.all noStar = true → (backTo pos (starEach es env)).all (fun x => !x.1) = true := fun es h => by
    have h1 := star_any h env pos
    rw [List.all_eq_not_any_not]
    simp only [Bool.not_not]
    have e : (backTo pos (starEach es env)).any (fun a => a.1) = false := h1
    rw [e]
    rfl
  have hf : methodCallForm (args.length + ([] : List Keyword).length) (backTo pos (starEach args env)) (backToKw pos (keywordEach [] env)) = true := by
    unfold methodCallForm
    rw [hall args hs]
    show (true && true && decide (args.length + 0 + 0 < 30)) = true
    rw [decide_eq_true (by omega)]
    rfl
  show (do
    let ov ← attributeBase o m env (eval o env)
    standAt apos.atName
    methodCall o m apos pos env ov (args.length + ([] : List Keyword).length) (backTo pos (starEach args env)) (backToKw pos (keywordEach [] env))) = _
  rw [base_of ho]
  unfold methodCall
  rw [hf]
  unfold calleeOf methodCallPos
  simp only [hl, Bool.not_true, Bool.false_or, if_true, pure_bind]
section
variable {X : Cx} {K : Frag} {W : WX} {a b c : Expr} {ra rb : DE} {es : List Expr} {rs : DA} {pos : Pos} {tc : DT}
/-! ### fields -/
theorem fld_of {g : G} {H : Hp} {S : Sto} (h : SR K g H S) {ok : Str → Str → Bool} {f : Str} {x d : D} {v : V} (r : Rp K g x v) (e : fldD ok S f x = some d) : ∃ a cn dx vs w, v = .ref a ∧ H a = some (.ins (He.ga K cn) dx vs) ∧ ClsOk K cn ∧ ok cn f = true ∧ vs.lookup f = some w ∧ Rp K g d w := by
  have fin : ∀ {cn : Str} {fs : List (Str × D)} {a dx : Addr} {vs : List (Str × V)}, v = .ref a → H a = some (.ins (He.ga K cn) dx vs) → Rpf K g fs vs → ClsOk K cn → (if ok cn f = true then fs.lookup f else none) = some d →
      ∃ a cn dx vs w, v = .ref a ∧ H a = some (.ins (He.ga K cn) dx vs) ∧ ClsOk K cn ∧ ok cn f = true ∧ vs.lookup f = some w ∧ Rp K g d w := fun {cn fs a dx vs} ev hH rf co e => by
    by_cases c : ok cn f = true
    · rw [if_pos c] at e
      obtain ⟨w, h1, h2⟩ := rf.look e
      exact ⟨a, cn, dx, vs, w, ev, hH, co, c, h1, h2⟩
    · rw [if_neg c] at e; cases e
  cases x with
  | ins cn fs =>
    cases r with
    | ins q1 co q2 => exact fin rfl (h.f _ _ q1) q2 co e
  | mu i =>
    cases r with
    | @mu a _ q =>
      have e1 : (match S[i]? with
        | some (.ins c fs) => if ok c f = true then fs.lookup f else none
        | _ => none) = some d := e
      cases z : S[i]? with
      | none => rw [z] at e1; cases e1
      | some m =>
        rw [z] at e1
        cases m with
        | ins cn fs =>
          obtain ⟨_, _, dx, vs, hH, rf, _, co⟩ := h.m i _ a z q
          exact fin rfl hH rf co e1
        | _ => cases e1
  | _ => cases e
theorem de_fld {ok : Str → Str → Bool} {f : Str} (hK : X.K = K) (hok : ∀ c f, ok c f = true → NoAttr K (He.ga K c) f) (hs : isSup a = false) (ha : PE X a (tD K W ra)) : PE X (.Attribute a f pos) (tD K W (eFld ok f ra)) := by
  subst hK
  refine PE.imp (pe_fld ha (base_of hs f X.env _)) fun σ H Q ⟨g, env, S, sr, sl, o⟩ => ?_
  refine ⟨g, env, S, sr, sl, (Out.bind o).imp fun x S1 g1 H1 l1 s1 o1 v r => ?_⟩
  obtain ⟨d, e, q⟩ := Out.opt o1
  obtain ⟨a, cn, dx, vs, w, rfl, hH, co, oo, lk, rw'⟩ := fld_of s1 r e
  exact ⟨a, _, dx, vs, w, rfl, hH, co.cl, hok _ _ oo, lk, q g1 H1 (G.Le.refl _) s1 w rw'⟩
end
/-! ### what is known of the program -/
/-- a def's promise by the evaluator -/
def spD (K : Frag) (n : Nat) (f : List D → Sto → Res D) : Sp := fun vs H Q E => vs.length = n ∧ ∃ g S ds, SR K g H S ∧ Rps K g ds vs ∧ Out K (fun cls dx _ H' => E cls dx H') [] g (f ds S) fun d _ g' H' => ∀ v, Rp K g' d v → Q v H'
/-- a def that is called: np parameters, the defaults of the last ones -/
def FnF (P : Program) (w : World) (K : Frag) (mg : Str → Option Value) (base : Heap) (lv : Nat) (f : Addr) (np : Nat) (ds : List D) (run : List D → Sto → Res D) : Prop :=
  ∃ fd ps, ps.length = np ∧ FnOk P w K mg base (L2.CX P w) lv f fd ps (spD K np run) ∧ ∀ m, m ≤ np → np ≤ m + ds.length → ∃ dvs us, Vals dvs us ∧ Binds K fd ps us ∧ ∀ g, Rps K g (ds.drop (ds.length - (np - m))) dvs
theorem fill_some {np : Nat} {ds xs ys : List D} (e : fill np ds xs = some ys) : xs.length ≤ np ∧ np ≤ xs.length + ds.length ∧ ys = xs ++ ds.drop (ds.length - (np - xs.length)) := by
  unfold fill at e
  split at e
  · split at e
    · rename_i h1 h2
      exact ⟨h1, h2, (Option.some.inj e).symm⟩
    · cases e
  · cases e
theorem fill_len {np : Nat} {ds xs ys : List D} (e : fill np ds xs = some ys) : ys.length = np := by
  obtain ⟨h1, h2, rfl⟩ := fill_some e
  rw [List.length_append, List.length_drop]
  omega
section
variable {X : Cx} {K : Frag} {W : WX} {k : Nat} {f : Addr} {fd : FuncData} {ps : List Str} {sp : Sp} {dvs : List V} {ds : List Value} {E : XK} {pins : List (Addr × Obj)} {σ : St} {H : Hp} {s : Shared} {Q : VK} {us : List Value} {vs : List V}
theorem run_fnW (F : FnOk X.prog X.w X.K X.mg X.base (L2.CX X.prog X.w) k f fd ps sp) (hr : Room k X.A) (hb : Binds X.K fd ps ds) (hd : Vals dvs ds) (tk : Takes X W) (I : Inv X pins σ H s) (r : Vals vs us) (h : sp (vs ++ dvs) H Q E) (hW : ∀ cls d H', E cls d H' → W cls d σ H') :
    wpAny (model X.prog X.w) X.A (call (.ref f) us) (EP X pins σ Q) X.xe s := by
  have r2 := r.append hd
  have hl : (us ++ ds).length = ps.length := r2.length.symm.trans (F.len _ _ _ _ h)
  have z := F.run X.A X.stack s H ⟨us, []⟩ (us ++ ds) (vs ++ dvs) Q E hr I.env0 (hb s us I.kIn hl) r2 h
  refine wpAny_call (codeAny_mono z fun fl s' hq => ?_)
  match fl, hq with
  | .error e, hq => exact tk e s' (XE.of_call I hW hq)
  | .ok (.ret u), hq => exact I.after hq
  | .ok .next, hq => exact False.elim hq
  | .ok .brk, hq => exact False.elim hq
  | .ok .cont, hq => exact False.elim hq
theorem run_makeW {C : Addr} (M : Mk X.K C f) (F : FnOk X.prog X.w X.K X.mg X.base (L2.CX X.prog X.w) k f fd ps sp) (hr : Room (k + 1) X.A) (hb : Binds X.K fd ps ds) (hd : Vals dvs ds) (tk : Takes X W) (I : Inv X pins σ H s) (r : Vals vs us)
    (h : ∀ x dx, H x = none → H dx = none → dx ≠ x → sp (.ref x :: (vs ++ dvs)) (upd (upd H dx (.own x)) x (.ins C dx [])) (fun v H2 => v = .non ∧ Q (.ref x) H2) E) (hW : ∀ cls d H', E cls d H' → W cls d σ H') :
    wpAny (model X.prog X.w) X.A (call (.ref C) us) (EP X pins σ Q) X.xe s := by
  have lt := Nat.lt_succ_self s.heap.objs.size
  have hq := h (s.heap.objs.size + 1) s.heap.objs.size (I.hok.fresh (Nat.le_succ _)) (I.hok.fresh (Nat.le_refl _)) (Nat.ne_of_lt lt)
  have J := Inv.made (C := C) I
  have rr : Vals (V.ref (s.heap.objs.size + 1) :: (vs ++ dvs)) (Value.ref (s.heap.objs.size + 1) :: (us ++ ds)) := .cons rfl (r.append hd)
  have hl := rr.length.symm.trans (F.len _ _ _ _ hq)
  have go := F.run _ X.stack _ _ ⟨Value.ref (s.heap.objs.size + 1) :: us, []⟩ (Value.ref (s.heap.objs.size + 1) :: (us ++ ds)) _ _ E (hr.make C us []) (J.env0.make C us []) (hb _ (Value.ref (s.heap.objs.size + 1) :: us) J.kIn hl) rr hq
  refine wpAny_call (make_map (f := f) I.kIn M.makes M.init (beq_iff_eq.mp M.fn) (codeAny_mono go fun fl s' z => ?_))
  match fl, z with
  | .error e, z => exact tk e s' (XE.of_call J hW z)
  | .ok (.ret u), z =>
    obtain ⟨v, H', I3, rv, ev, q3⟩ := J.after z
    subst ev
    exact ⟨rv, ⟨V.ref (s.heap.objs.size + 1), H', I3, rfl, q3⟩⟩
  | .ok .next, z => exact False.elim z
  | .ok .brk, z => exact False.elim z
  | .ok .cont, z => exact False.elim z
theorem Out.wish {α : Type} {g : G} {r : Res α} {R : α → Sto → G → Hp → Prop} (h : Out K W σ g r R) : Out K (fun cls dx _ H' => W cls dx σ H') [] g r R := by
  cases r with
  | ok a S => exact h
  | exc c fs S => exact h
  | bad => exact h
end
section
variable {X : Cx} {K : Frag} {W : WX} {a b c : Expr} {ra rb : DE} {es : List Expr} {rs : DA} {pos p : Pos} {tc : DT} {cf : Cf} {np : Nat} {dfl : List D} {lv : Nat}
/-- the arguments, filled up, as the callee takes them -/
theorem args_go {σ : St} {H : Hp} {Q : VK} {run : List D → Sto → Res D} {fd : FuncData} {ps : List Str}
    (hB : ∀ m, m ≤ np → np ≤ m + dfl.length → ∃ dvs us, Vals dvs us ∧ Binds K fd ps us ∧ ∀ g, Rps K g (dfl.drop (dfl.length - (np - m))) dvs)
    {g : G} {env : Ev} {S : Sto} (sr : SR K g H S) (sl : Slots K g env σ) (o : Out K W σ g ((rs env S).bind fun xs S1 => (opt (fill np dfl xs) S1).bind fun ys S2 => run ys S2) fun d _ g' H' => ∀ v, Rp K g' d v → Q v H') :
    tAs K W rs σ H fun vs H1 => ∃ dvs us g1 S1 ys, Vals dvs us ∧ Binds K fd ps us ∧ SR K g1 H1 S1 ∧ Rps K g1 ys (vs ++ dvs) ∧ (vs ++ dvs).length = np ∧ G.Le g g1 ∧ Out K W σ g1 (run ys S1) fun d _ g' H' => ∀ v, Rp K g' d v → Q v H' := by
  refine ⟨g, env, S, sr, sl, (Out.bind o).imp fun xs S1 g1 H1 l1 s1 o1 vs rvs => ?_⟩
  obtain ⟨ys, e, q⟩ := Out.opt (Out.bind o1)
  obtain ⟨h1, h2, h3⟩ := fill_some e
  obtain ⟨dvs, us, hv, hb, hd⟩ := hB xs.length h1 h2
  have ry : Rps K g1 ys (vs ++ dvs) := by rw [h3]; exact rvs.append (hd g1)
  exact ⟨dvs, us, g1, S1, ys, hv, hb, s1, ry, by rw [ry.length]; exact fill_len e, l1, q g1 H1 (G.Le.refl _) s1⟩
theorem de_call {x : Str} {io : Bool} {key : Fk} (hK : X.K = K) (hr : Room lv X.A) (tk : Takes X W) (hf : FnF X.prog X.w K X.mg X.base lv (He.ga K x) np dfl (cf key)) (hk : PySem.W.keepIn K (.ref (He.ga K x)) = true) (hg : Gl X x) (hm : X.mg x = some (.ref (He.ga K x)))
    (hdb : (x == ("__debug__" : Str)) = false) (hs : es.all noStar = true) (h0 : es = [] → ∀ σ H Q, tAs K W rs σ H Q → Q [] H) (ha : PA X es (tAs K W rs)) : PE X (.Call (.Name x p) es [] pos) (tD K W (eCall cf io key np dfl rs)) := by
  subst hK
  obtain ⟨fd, ps, hl, F, hB⟩ := hf
  refine ⟨fun pins s σ H Q I h => ?_⟩
  obtain ⟨g, env, S, sr, sl, o⟩ := h
  have o1 : Out X.K W σ g ((rs env S).bind fun xs S1 => (opt (fill np dfl xs) S1).bind fun ys S2 => (fun ys S2 => if io = true then cf key ys S2 else cf key (frzs S2 ys).1 (frzs S2 ys).2) ys S2) fun d _ g' H' => ∀ v, Rp X.K g' d v → Q v H' := o
  have t := args_go (fd := fd) (ps := ps) hB sr sl o1
  have fin : ∀ {us : List Value} {s1 : Shared} {vs : List V} {H1 : Hp}, Inv X pins σ H1 s1 → Vals vs us → (∃ dvs us' g1 S1 ys, Vals dvs us' ∧ Binds X.K fd ps us' ∧ SR X.K g1 H1 S1 ∧ Rps X.K g1 ys (vs ++ dvs) ∧ (vs ++ dvs).length = np ∧ G.Le g g1 ∧
      Out X.K W σ g1 (if io = true then cf key ys S1 else cf key (frzs S1 ys).1 (frzs S1 ys).2) fun d _ g' H' => ∀ v, Rp X.K g' d v → Q v H') → wpAny (model X.prog X.w) X.A (call (.ref (He.ga X.K x)) us) (EP X pins σ Q) X.xe s1 := fun {us s1 vs H1} I1 r ⟨dvs, us', g1, S1, ys, hv, hb, s1', ry, ln, _, q⟩ => by
    refine run_fnW (E := fun cls dx H' => W cls dx σ H') F hr hb hv tk I1 r ⟨ln, ?_⟩ fun _ _ _ z => z
    by_cases c : io = true
    · rw [if_pos c] at q
      exact ⟨g1, S1, ys, s1', ry, q.wish⟩
    · rw [if_neg c] at q
      obtain ⟨g2, l2, s2, r2⟩ := frzs_ok s1' ry
      exact ⟨g2, _, _, s2, r2, (q.mono l2).wish⟩
  refine wpAny_Call_Name_kw (ld_glob I hg hm ?_ hdb)
  cases es with
  | nil =>
    refine PySem.W.callWith_K0 I.kIn hk ?_
    exact fin I .nil (h0 rfl σ H _ t)
  | cons e es =>
    obtain ⟨n1, n2⟩ := Bool.and_eq_true_iff.mp (show (noStar e && es.all noStar) = true from hs)
    exact PySem.W.callWith_K (h₀ := X.base) I.ok.mod.kin hk (thn (ha.run pos pins s σ H _ I t) fun us s1 ⟨vs, H1, I1, r, q⟩ => ⟨I1.kIn, fin I1 r q⟩) (noStar_each n1 es X.env) (star_any n2 X.env pos)
/-- C(..) -/
theorem made_ok {g : G} {σ : St} {cn : Str} {n : Nat} {r : Res D} {Q : D → Sto → G → Hp → Prop} (h : Out K W σ g (made cn n r) Q) : ∃ S fs, r = .ok .non S ∧ S[n]? = some (.ins cn fs) ∧ Out K W σ g (.ok (.ins cn fs) (S.take n)) Q := by
  unfold made at h
  split at h
  · split at h
    · rename_i S _ c' fs e
      by_cases z : c' = cn
      · rw [if_pos z] at h
        subst z
        exact ⟨S, fs, rfl, e, h⟩
      · rw [if_neg z] at h
        exact h.elim
    · exact h.elim
  · exact h.elim
theorem de_make {x : Str} (hK : X.K = K) (hr : Room (lv + 1) X.A) (tk : Takes X W) (M : Mk K (He.ga K x) (He.ma K (He.ga K x) "__init__")) (co : ClsOk K x) (hf : FnF X.prog X.w K X.mg X.base lv (He.ma K (He.ga K x) "__init__") (np + 1) dfl (cf (x, some "__init__")))
    (hg : Gl X x) (hm : X.mg x = some (.ref (He.ga K x))) (hdb : (x == ("__debug__" : Str)) = false) (hs : es.all noStar = true) (h0 : es = [] → ∀ σ H Q, tAs K W rs σ H Q → Q [] H) (ha : PA X es (tAs K W rs)) : PE X (.Call (.Name x p) es [] pos) (tD K W (eMake cf x np dfl rs)) := by
  subst hK
  obtain ⟨fd, ps, hl, F, hB⟩ := hf
  have hB' : ∀ m, m ≤ np → np ≤ m + dfl.length → ∃ dvs us, Vals dvs us ∧ Binds X.K fd ps us ∧ ∀ g, Rps X.K g (dfl.drop (dfl.length - (np - m))) dvs := fun m h1 h2 => by
    obtain ⟨dvs, us, q1, q2, q3⟩ := hB (m + 1) (by omega) (by omega)
    refine ⟨dvs, us, q1, q2, fun g => ?_⟩
    have := q3 g
    rw [show np + 1 - (m + 1) = np - m by omega] at this
    exact this
  refine ⟨fun pins s σ H Q I h => ?_⟩
  obtain ⟨g, env, S, sr, sl, o⟩ := h
  have t := args_go (fd := fd) (ps := ps) (run := fun ys S2 => made x S2.length (cf (x, some "__init__") (.mu S2.length :: ys) (S2 ++ [.ins x []]))) hB' sr sl o
  have fin : ∀ {us : List Value} {s1 : Shared} {vs : List V} {H1 : Hp}, Inv X pins σ H1 s1 → Vals vs us → (∃ dvs us' g1 S1 ys, Vals dvs us' ∧ Binds X.K fd ps us' ∧ SR X.K g1 H1 S1 ∧ Rps X.K g1 ys (vs ++ dvs) ∧ (vs ++ dvs).length = np ∧ G.Le g g1 ∧
      Out X.K W σ g1 (made x S1.length (cf (x, some "__init__") (.mu S1.length :: ys) (S1 ++ [.ins x []]))) fun d _ g' H' => ∀ v, Rp X.K g' d v → Q v H') → wpAny (model X.prog X.w) X.A (call (.ref (He.ga X.K x)) us) (EP X pins σ Q) X.xe s1 := fun {us s1 vs H1} I1 r ⟨dvs, us', g1, S1, ys, hv, hb, s1', ry, ln, _, q⟩ => by
    obtain ⟨S', fs, e1, e2, q⟩ := made_ok q
    refine run_makeW (E := fun cls dx H' => W cls dx σ H') M F hr hb hv tk I1 r (fun xa dx hx hdx ne => ?_) fun _ _ _ z => z
    have sA := s1'.ext hdx (.own xa)
    have hx' : upd H1 dx (.own xa) xa = none := by rw [upd_ne (Ne.symm ne)]; exact hx
    have sB := sA.own hx' (o := .ins (He.ga X.K x) dx []) (m := .ins x []) ⟨(sA.fresh hx').1, (sA.fresh hx').2, dx, [], upd_same, .nil, rfl, co⟩
    refine ⟨by show (vs ++ dvs).length + 1 = np + 1; rw [ln], g1.own xa, _, _, sB, .cons (.mu (own_at s1')) (ry.mono own_le), ?_⟩
    rw [e1]
    intro g2 H2 l2 s2 v rv
    cases rv
    refine ⟨rfl, ?_⟩
    have ea : g2.a[S1.length]? = some xa := l2.a _ _ (own_at s1')
    obtain ⟨fa, ka, dx', ws, hH, rf, nm, _⟩ := s2.m S1.length _ xa e2 ea
    have rr : Rp X.K (g2.lay xa (.ins (He.ga X.K x) dx' ws)) (.ins x fs) (.ref xa) := .ins upd_same co (rf.mono (lay_le fa))
    obtain ⟨s3, l3⟩ := s2.freeze e2 ea rfl hH rr nm
    have s4 := s3.cut S1.length
    rw [List.take_set_of_le (Nat.le_refl _)] at s4
    have l4 : G.Le g1 ((g2.lay xa (.ins (He.ga X.K x) dx' ws)).cut S1.length) := cut_le (by rw [s1'.len]; exact Nat.le_refl _) ((own_le.trans l2).trans l3)
    exact q _ H2 l4 s4 _ (rr.noMu (g := g2.lay xa (.ins (He.ga X.K x) dx' ws)) (g' := (g2.lay xa (.ins (He.ga X.K x) dx' ws)).cut S1.length) (fun _ _ e => e) nm)
  refine wpAny_Call_Name_kw (ld_glob I hg hm ?_ hdb)
  cases es with
  | nil =>
    refine PySem.W.callWith_K0 I.kIn M.kp ?_
    exact fin I .nil (h0 rfl σ H _ t)
  | cons e es =>
    obtain ⟨n1, n2⟩ := Bool.and_eq_true_iff.mp (show (noStar e && es.all noStar) = true from hs)
    exact PySem.W.callWith_K (h₀ := X.base) I.ok.mod.kin M.kp (thn (ha.run pos pins s σ H _ I t) fun us s1 ⟨vs, H1, I1, r, q⟩ => ⟨I1.kIn, fin I1 r q⟩) (noStar_each n1 es X.env) (star_any n2 X.env pos)
theorem ins_of {g : G} {H : Hp} {S : Sto} (h : SR K g H S) {x : D} {v : V} {cn : Str} {fs : List (Str × D)} (r : Rp K g x v) (e : insOf S x = some (cn, fs)) : ∃ a dx vs, v = .ref a ∧ H a = some (.ins (He.ga K cn) dx vs) ∧ ClsOk K cn ∧ Rpf K g fs vs := by
  cases x with
  | ins c' fs' =>
    cases (show some (c', fs') = some (cn, fs) from e)
    cases r with
    | ins q1 co q2 => exact ⟨_, _, _, rfl, h.f _ _ q1, co, q2⟩
  | mu i =>
    cases r with
    | @mu a _ q =>
      have e1 : (match S[i]? with
        | some (.ins c fs) => some (c, fs)
        | _ => none) = some (cn, fs) := e
      cases z : S[i]? with
      | none => rw [z] at e1; cases e1
      | some m =>
        rw [z] at e1
        cases m with
        | ins c' fs' =>
          cases e1
          obtain ⟨_, _, dx, vs, hH, rf, _, co⟩ := h.m i _ a z q
          exact ⟨a, dx, vs, rfl, hH, co, rf⟩
        | _ => cases e1
  | _ => cases e
/-- o.m(..) -/
theorem de_meth {m : Str} {apos : Pos} {io : Fk → Bool} {mt : Str → Str → Option (Nat × List D)} (hK : X.K = K) (hr : Room lv X.A) (tk : Takes X W)
    (hf : ∀ c np dfl, mt c m = some (np, dfl) → Meth K (He.ga K c) m (He.ma K (He.ga K c) m) ∧ FnF X.prog X.w K X.mg X.base lv (He.ma K (He.ga K c) m) (np + 1) dfl (cf (c, some m)))
    (ho : isSup a = false) (hl : (apos.endLine == pos.line) = true) (h30 : es.length < 29) (hs : es.all noStar = true) (h0 : es = [] → ∀ σ H Q, tAs K W rs σ H Q → Q [] H) (hA : PE X a (tD K W ra)) (ha : PA X es (tAs K W rs)) :
    PE X (.Call (.Attribute a m apos) es [] pos) (tD K W (eMeth cf io mt m ra rs)) := by
  subst hK
  refine ⟨fun pins s σ H Q I h => ?_⟩
  obtain ⟨g, env, S, sr, sl, o⟩ := h
  refine methcall_of hA I (pl := _) ?_ (meth_tree X.env ho hs hl h30)
  refine ⟨g, env, S, sr, sl, (Out.bind o).imp fun x S1 g1 H1 l1 s1 o1 v r => ?_⟩
  cases hi : insOf S1 x with
  | none => rw [hi] at o1; exact o1.elim
  | some cfs =>
    obtain ⟨cn, fs⟩ := cfs
    rw [hi] at o1
    cases hlk : fs.lookup m with
    | some _ => simp only [hlk] at o1; exact o1.elim
    | none =>
      simp only [hlk] at o1
      cases hm : mt cn m with
      | none => simp only [hm] at o1; exact o1.elim
      | some nd =>
        obtain ⟨np, dfl⟩ := nd
        simp only [hm] at o1
        obtain ⟨M, fd, ps, hlp, F, hB⟩ := hf cn np dfl hm
        obtain ⟨ad, dx, vs, rfl, hH, co, rf⟩ := ins_of s1 r hi
        refine ⟨ad, _, dx, vs, _, rfl, hH, co.cl, M, rf.none hlk, fun s1' I1 => ?_⟩
        have hB' : ∀ m, m ≤ np → np ≤ m + dfl.length → ∃ dvs us, Vals dvs us ∧ Binds X.K fd ps us ∧ ∀ g, Rps X.K g (dfl.drop (dfl.length - (np - m))) dvs := fun m h1 h2 => by
          obtain ⟨dvs, us, q1, q2, q3⟩ := hB (m + 1) (by omega) (by omega)
          refine ⟨dvs, us, q1, q2, fun g => ?_⟩
          have := q3 g
          rw [show np + 1 - (m + 1) = np - m by omega] at this
          exact this
        have t := args_go (fd := fd) (ps := ps) (run := fun ys S3 => if io (cn, some m) = true then cf (cn, some m) (x :: ys) S3 else cf (cn, some m) (x :: (frzs S3 ys).1) (frzs S3 ys).2) hB' s1 (sl.mono l1) o1
        have fin : ∀ {us : List Value} {s2 : Shared} {ws : List V} {H2 : Hp}, Inv X pins σ H2 s2 → Vals ws us → (∃ dvs us' g2 S2 ys, Vals dvs us' ∧ Binds X.K fd ps us' ∧ SR X.K g2 H2 S2 ∧ Rps X.K g2 ys (ws ++ dvs) ∧ (ws ++ dvs).length = np ∧ G.Le g1 g2 ∧
            Out X.K W σ g2 (if io (cn, some m) = true then cf (cn, some m) (x :: ys) S2 else cf (cn, some m) (x :: (frzs S2 ys).1) (frzs S2 ys).2) fun d _ g' H' => ∀ v, Rp X.K g' d v → Q v H') → wpAny (model X.prog X.w) X.A (call (.ref (He.ma X.K (He.ga X.K cn) m)) (.ref ad :: us)) (EP X pins σ Q) X.xe s2 := fun {us s2 ws H2} I2 rv ⟨dvs, us', g2, S2, ys, hv, hb, s2', ry, ln, l2, q⟩ => by
          refine run_fnW (vs := .ref ad :: ws) (E := fun cls dx H' => W cls dx σ H') F hr hb hv tk I2 (.cons rfl rv) ⟨by show (ws ++ dvs).length + 1 = np + 1; rw [ln], ?_⟩ fun _ _ _ z => z
          by_cases c : io (cn, some m) = true
          · rw [if_pos c] at q
            exact ⟨g2, S2, _, s2', .cons (r.mono l2) ry, q.wish⟩
          · rw [if_neg c] at q
            obtain ⟨g3, l3, s3, r3⟩ := frzs_ok s2' ry
            exact ⟨g3, _, _, s3, .cons (r.mono (l2.trans l3)) r3, (q.mono l3).wish⟩
        cases es with
        | nil =>
          refine PySem.W.callWith_K0 (first := [.ref ad]) I1.kIn M.kp ?_
          exact fin I1 .nil (h0 rfl σ H1 _ t)
        | cons e es =>
          obtain ⟨n1, n2⟩ := Bool.and_eq_true_iff.mp (show (noStar e && es.all noStar) = true from hs)
          exact PySem.W.callWith_K (first := [.ref ad]) (h₀ := X.base) I.ok.mod.kin M.kp (thn (ha.run pos pins s1' σ H1 _ I1 t) fun us s2 ⟨ws, H2, I2, rv, q⟩ => ⟨I2.kIn, fin I2 rv q⟩) (noStar_each n1 es X.env) (star_any n2 X.env pos)
end
end Pv

set_option Elab.async false
set_option linter.all false
set_option maxRecDepth 100000
set_option maxHeartbeats 1000000
/-! Pv, part G: isinstance; what is known of the program. -/
namespace Pv
open PySem L2
open PyProof.Rows hiding St
open PySem.W (Frag)
def tyAll : List String := ["NoneType", "bool", "int", "str", "tuple", "list", "dict"]
/-- what is known of the program's names -/
structure Ok (K : Frag) (mg : Str → Option Value) (p : Pol) : Prop where
  fn : ∀ x np ds, p.gl x = some (.fn np ds) → mg x = some (.ref (He.ga K x)) ∧ PySem.W.keepIn K (.ref (He.ga K x)) = true
  cls : ∀ x np ds, p.gl x = some (.cls np ds) → mg x = some (.ref (He.ga K x)) ∧ Mk K (He.ga K x) (He.ma K (He.ga K x) "__init__") ∧ ClsOk K x
  con : ∀ x d, p.gl x = some (.con d) → ∃ u v, mg x = some u ∧ RelV v u ∧ ∀ g, Rp K g d v
  meth : ∀ c m np ds, p.mt c m = some (np, ds) → Meth K (He.ga K c) m (He.ma K (He.ga K c) m)
  free : ∀ x, p.free x = true → mg x = none
  fld : ∀ c f, p.fld c f = true → NoAttr K (He.ga K c) f
  own : ∀ c, p.own c = true → mg c = some (.ref (He.ga K c))
  isB : ∀ t ∈ tyAll, ∀ c, p.own c = true → PySem.W.kitOne K (.type t) (.ref (He.ga K c)) = some false
  isO : ∀ c c', p.own c = true → p.own c' = true → PySem.W.kitOne K (.ref (He.ga K c)) (.ref (He.ga K c')) = some (decide (c = c'))
  isN : ∀ c, p.own c = true → ∀ x ∈ tyNames, PySem.W.kitOne K (.ref (He.ga K c)) (.type (tyS x)) = some false
def tyV (K : Frag) : Ty → Value
  | .b t => .type t
  | .o c => .ref (He.ga K c)
def clV (K : Frag) (own : Str → Bool) (x : Str) : V := if own x = true then .ref (He.ga K x) else .ty (tyS x)
def clU (K : Frag) (own : Str → Bool) (x : Str) : Value := if own x = true then .ref (He.ga K x) else .type (tyS x)
theorem kitB_all : (tyAll.all fun t => tyNames.all fun x => decide (kitB t (tyS x) = some (bT t (tyS x)))) = true := by decide +kernel
section
variable {K : Frag} {mg : Str → Option Value} {p : Pol} {g : G} {H : Hp} {S : Sto}
theorem cls_v (own : Str → Bool) (x : Str) : ClsV (clV K own x) (clU K own x) := by
  unfold clV clU
  split
  · exact .own _
  · exact .ty _
theorem tyX_of (h : SR K g H S) {x : D} {v : V} {t : Ty} (r : Rp K g x v) (e : tyOf S x = some t) : TyX K H v (tyV K t) ∧ (∀ b, t = .b b → b ∈ tyAll) := by
  unfold tyOf at e
  cases hi : insOf S x with
  | some cf =>
    rw [hi] at e
    cases e
    obtain ⟨a, dx, vs, rfl, hH, co, _⟩ := ins_of h r (cn := cf.1) (fs := cf.2) hi
    exact ⟨.base (.ins hH co.cl co.cn co.sp co.tk co.mr), fun b z => by cases z⟩
  | none =>
    rw [hi] at e
    cases hx : dr S x with
    | non =>
      rw [hx] at e
      cases e
      rcases dr_self h r with q | ⟨_, _, ⟨_, z⟩ | ⟨_, z⟩⟩
      · rw [hx] at q; cases q; exact ⟨.base .non, fun b z => by cases z; decide⟩
      · rw [hx] at z; cases z
      · rw [hx] at z; cases z
    | bl k =>
      rw [hx] at e
      cases e
      rcases dr_self h r with q | ⟨_, _, ⟨_, z⟩ | ⟨_, z⟩⟩
      · rw [hx] at q; cases q; exact ⟨.base (.bl _), fun b z => by cases z; decide⟩
      · rw [hx] at z; cases z
      · rw [hx] at z; cases z
    | int i =>
      rw [hx] at e
      cases e
      have := dr_int h r hx
      subst this
      exact ⟨.base (.int _), fun b z => by cases z; decide⟩
    | str i =>
      rw [hx] at e
      cases e
      have := dr_str h r hx
      subst this
      exact ⟨.base (.str _), fun b z => by cases z; decide⟩
    | tup ds =>
      rw [hx] at e
      cases e
      obtain ⟨a, vs, rfl, h1, _⟩ := dr_tup h r hx
      refine ⟨?_, fun b z => by cases z; decide⟩
      rcases h1 with (h1 | ⟨o, h1⟩) | ⟨o, _, _, h1, h2, _⟩
      · exact .base (.tup h1)
      · exact .fTuple h1
      · exact .kTuple h1 h2
    | lst ds =>
      rw [hx] at e
      cases e
      obtain ⟨a, vs, rfl, h1, _⟩ := dr_lst h r hx
      exact ⟨.base (.lst h1), fun b z => by cases z; decide⟩
    | dct ds =>
      rw [hx] at e
      cases e
      obtain ⟨a, vs, rfl, h1, _⟩ := dr_dct h r hx
      exact ⟨.base (.dK h1), fun b z => by cases z; decide⟩
    | scr ns => rw [hx] at e; cases e
    | ins c fs => rw [hx] at e; cases e
    | mu i => rw [hx] at e; cases e
theorem kit_of1 (O : Ok K mg p) {t : Ty} (ht : ∀ b, t = .b b → b ∈ tyAll) (ho : okTy p.own t = true) {x : Str} (hx : p.own x = true ∨ x ∈ tyNames) : PySem.W.kitOne K (tyV K t) (clU K p.own x) = some (isT p.own t x) := by
  cases t with
  | b t =>
    have ht' := ht t rfl
    unfold clU isT
    by_cases c : p.own x = true
    · rw [if_pos c]
      simp only [if_pos c]
      exact O.isB t ht' x c
    · rw [if_neg c]
      simp only [if_neg c]
      have z := List.all_eq_true.mp (List.all_eq_true.mp kitB_all t ht') x (hx.resolve_left c)
      exact kit_ty (of_decide_eq_true z)
  | o cn =>
    unfold clU isT
    by_cases c : p.own x = true
    · rw [if_pos c]
      simp only [if_pos c]
      exact O.isO cn x ho c
    · rw [if_neg c]
      simp only [if_neg c]
      exact O.isN cn ho x (hx.resolve_left c)
theorem kit_any (O : Ok K mg p) {t : Ty} (ht : ∀ b, t = .b b → b ∈ tyAll) (ho : okTy p.own t = true) : ∀ {xs : List Str}, (∀ x ∈ xs, p.own x = true ∨ x ∈ tyNames) → PySem.W.kitAny K (tyV K t) (xs.map (clU K p.own)) = some (isAny p.own t xs)
  | [], _ => rfl
  | x :: xs, h => by
    refine kitAny_cons (kit_of1 O ht ho (h x List.mem_cons_self)) (fun e => ?_) fun e => ?_
    · rw [kit_any O ht ho (xs := xs) fun y hy => h y (List.mem_cons_of_mem _ hy)]
      show some _ = some (isT p.own t x || isAny p.own t xs)
      rw [e]
      rfl
    · show (isT p.own t x || isAny p.own t xs) = true
      rw [e]
      rfl
end
section
variable {X : Cx} {K : Frag} {W : WX} {p : Pol} {a c : Expr} {ra : DE} {s : Sc} {pos q : Pos}
theorem glob_of (hsc : X.env.scope = s.sc) {x : Str} (h : isGlob s x = true) : Gl X x ∧ (x == ("__debug__" : Str)) = false ∧ x ≠ "__name__" := by
  unfold isGlob at h
  split at h
  · rename_i e
    obtain ⟨h1, h2⟩ := Bool.and_eq_true_iff.mp h
    refine ⟨?_, by simpa using h1, fun z => by rw [z] at h2; exact absurd h2 (by decide +kernel)⟩
    show X.env.scope.names.lookup x = some .globalImplicit
    rw [hsc]
    exact e
  · cases h
/-- a class's name -/
theorem pe_cls (O : Ok X.K X.mg p) (hsc : X.env.scope = s.sc) {x : Str} (h : isGlob s x = true) (hx : (p.own x || (p.free x && tyNames.contains x)) = true) : PE X (.Name x q) (tC (clV X.K p.own x)) := by
  obtain ⟨h1, h2, h3⟩ := glob_of hsc h
  unfold clV
  by_cases c : p.own x = true
  · rw [if_pos c]
    exact pe_glob h1 (O.own x c) rfl h2
  · rw [if_neg c]
    rcases Bool.or_eq_true_iff.mp hx with z | z
    · exact absurd z c
    · obtain ⟨z1, z2⟩ := Bool.and_eq_true_iff.mp z
      have z3 : x ∈ tyNames := List.contains_iff_mem.mp z2
      have hb : bootBuiltins x = some (.type (tyS x)) := by
        simp only [tyNames, List.mem_cons, List.not_mem_nil, or_false] at z3
        rcases z3 with rfl | rfl | rfl | rfl | rfl | rfl <;> decide +kernel
      exact pe_bltn h1 (O.free x z1) hb rfl h3 h2
def tCA (vs : List V) : TA := fun _ H Q => Q vs H
theorem pa_names (O : Ok X.K X.mg p) (hsc : X.env.scope = s.sc) : ∀ {es : List Expr} {xs : List Str}, namesIn s es = some xs → (∀ x ∈ xs, (p.own x || (p.free x && tyNames.contains x)) = true) → PA X es (tCA (xs.map (clV X.K p.own)))
  | [], xs, e, _ => by
    cases (show some [] = some xs from e)
    exact PA.imp pa_nil fun _ _ _ h => h
  | e :: es, xs, h, hx => by
    cases e with
    | Name x q =>
      have h1 : (if isGlob s x = true then (namesIn s es).map (x :: ·) else none) = some xs := h
      by_cases c : isGlob s x = true
      · rw [if_pos c] at h1
        obtain ⟨ys, h2, h3⟩ := Option.map_eq_some_iff.mp h1
        subst h3
        exact PA.imp (pa_cons (pe_cls O hsc c (hx x List.mem_cons_self)) (pa_names O hsc h2 fun y hy => hx y (List.mem_cons_of_mem _ hy))) fun _ _ _ h => h
      · rw [if_neg c] at h1; cases h1
    | _ => cases h
theorem pe_classes (O : Ok X.K X.mg p) (hsc : X.env.scope = s.sc) {xs : List Str} (h : classesIn s c = some xs) (hx : ∀ x ∈ xs, (p.own x || (p.free x && tyNames.contains x)) = true) :
    (∃ x, xs = [x] ∧ PE X c (tC (clV X.K p.own x))) ∨ PE X c (tTup (tCA (xs.map (clV X.K p.own)))) := by
  cases c with
  | Name x q =>
    have h1 : (if isGlob s x = true then some [x] else none) = some xs := h
    by_cases z : isGlob s x = true
    · rw [if_pos z] at h1
      cases h1
      exact .inl ⟨x, rfl, pe_cls O hsc z (hx x List.mem_cons_self)⟩
    · rw [if_neg z] at h1; cases h1
  | Tuple es k q => exact .inr (pe_tup (pa_names O hsc h hx))
  | _ => cases h
theorem paired_cls (own : Str → Bool) : ∀ xs : List Str, Paired ClsV (xs.map (clV K own)) (xs.map (clU K own))
  | [] => .nil
  | x :: xs => .cons (cls_v own x) (paired_cls own xs)
theorem namesIn_len : ∀ {es : List Expr} {xs : List Str}, namesIn s es = some xs → xs.length = es.length
  | [], xs, e => by cases (show some [] = some xs from e); rfl
  | e :: es, xs, h => by
    cases e with
    | Name x q =>
      have h1 : (if isGlob s x = true then (namesIn s es).map (x :: ·) else none) = some xs := h
      by_cases c : isGlob s x = true
      · rw [if_pos c] at h1
        obtain ⟨ys, h2, h3⟩ := Option.map_eq_some_iff.mp h1
        subst h3
        exact congrArg Nat.succ (namesIn_len h2)
      · rw [if_neg c] at h1; cases h1
    | _ => cases h
theorem de_isi (O : Ok X.K X.mg p) (hsc : X.env.scope = s.sc) (hn : noStar a = true) (hnc : noStar c = true) (ha : PE X a (tD X.K W ra)) : PE X (.Call (.Name "isinstance" q) [a, c] [] pos) (tD X.K W (dIsi p s ra c)) := by
  unfold dIsi
  split
  · rename_i hg
    obtain ⟨g1, g2⟩ := Bool.and_eq_true_iff.mp hg
    obtain ⟨gl, gd, gn⟩ := glob_of hsc g1
    split
    · rename_i xs hxs
      split
      · rename_i hall0
        obtain ⟨hall, hl20⟩ := Bool.and_eq_true_iff.mp hall0
        have hx := List.all_eq_true.mp hall
        have hx' : ∀ x ∈ xs, p.own x = true ∨ x ∈ tyNames := fun x h => by
          rcases Bool.or_eq_true_iff.mp (hx x h) with z | z
          · exact .inl z
          · exact .inr (List.contains_iff_mem.mp (Bool.and_eq_true_iff.mp z).2)
        have ok1 : ∀ {σ : St} {H1 : Hp} {g1 : G} {S1 : Sto} {d : D} {v : V} {Q : VK}, SR X.K g1 H1 S1 → Rp X.K g1 d v → (Out X.K W σ g1 (match tyOf S1 d with
            | some t => if okTy p.own t = true then Res.ok (D.bl (isAny p.own t xs)) S1 else .bad
            | none => .bad) fun d _ g' H' => ∀ v, Rp X.K g' d v → Q v H') → ∃ t, TyX X.K H1 v (tyV X.K t) ∧ (∀ b, t = .b b → b ∈ tyAll) ∧ okTy p.own t = true ∧ ∀ g' H', G.Le g1 g' → SR X.K g' H' S1 → Q (.bl (isAny p.own t xs)) H' := fun {σ H1 g1 S1 d v Q} s1 r o => by
          cases ht : tyOf S1 d with
          | none => rw [ht] at o; exact o.elim
          | some t =>
            rw [ht] at o
            by_cases z : okTy p.own t = true
            · simp only [if_pos z] at o
              exact ⟨t, (tyX_of s1 r ht).1, (tyX_of s1 r ht).2, z, fun g' H' l s => o g' H' l s _ (.bl _)⟩
            · simp only [if_neg z] at o
              exact o.elim
        rcases pe_classes O hsc hxs hx with ⟨x, rfl, hc⟩ | hc
        · refine PE.imp (pe_callB call_isi gl (O.free _ g2) (by decide +kernel) (pa_cons ha (pa_cons hc pa_nil (noStar_each hnc [] X.env)) (noStar_each hn [c] X.env)) gn gd (noStar_each hn [c] X.env) (star_any (es := [c]) (by simp [hnc]) X.env pos)) fun σ H Q ⟨g, env, S, sr, sl, o⟩ => ?_
          refine ⟨g, env, S, sr, sl, (Out.bind o).imp fun d S1 g1 H1 l1 s1 o1 v r => ?_⟩
          obtain ⟨t, h1, h2, h3, h4⟩ := ok1 s1 r o1
          have h5 := kit_of1 O h2 h3 (hx' x List.mem_cons_self)
          have e : isAny p.own t [x] = isT p.own t x := by show (isT p.own t x || false) = _; rw [Bool.or_false]
          rw [e] at h4
          exact ⟨v, clV X.K p.own x, _, _, _, rfl, cls_v p.own x, h1, h5, h4 g1 H1 (G.Le.refl _) s1⟩
        · refine PE.imp (pe_callB call_isiT gl (O.free _ g2) (by decide +kernel) (pa_cons ha (pa_cons hc pa_nil (noStar_each hnc [] X.env)) (noStar_each hn [c] X.env)) gn gd (noStar_each hn [c] X.env) (star_any (es := [c]) (by simp [hnc]) X.env pos)) fun σ H Q ⟨g, env, S, sr, sl, o⟩ => ?_
          refine ⟨g, env, S, sr, sl, (Out.bind o).imp fun d S1 g1 H1 l1 s1 o1 v r => ?_⟩
          have hl : (xs.map (clV X.K p.own)).length ≤ sizeLine := by
            have := of_decide_eq_true hl20
            rw [List.length_map, sizeLine_eq]
            omega
          refine ⟨hl, fun pa hp => ?_⟩
          obtain ⟨t, h1, h2, h3, h4⟩ := ok1 (s1.ext hp (.tup (xs.map (clV X.K p.own)))) r o1
          exact ⟨v, pa, _, _, _, _, rfl, upd_same, paired_cls p.own xs, h1, kit_any O h2 h3 hx', h4 g1 _ (G.Le.refl _) (s1.ext hp _)⟩
      · exact PE.bad
    · exact PE.bad
  · exact PE.bad
end
end Pv

set_option Elab.async false
set_option linter.all false
set_option maxRecDepth 100000
set_option maxHeartbeats 1000000
/-! Pv, part H: statements. -/
namespace Pv
open PySem L2
open PyProof.Rows hiding St
open PySem.W (Frag)
def OutS (K : Frag) (W : WX) (g : G) (r : Res Fl) (E : Ends) : Prop := match r with
  | .ok (.nx env) S => ∀ g' H' σ', G.Le g g' → SR K g' H' S → Slots K g' env σ' → E.nx σ' H'
  | .ok (.bk env) S => ∀ g' H' σ', G.Le g g' → SR K g' H' S → Slots K g' env σ' → E.bk σ' H'
  | .ok (.ct env) S => ∀ g' H' σ', G.Le g g' → SR K g' H' S → Slots K g' env σ' → E.ct σ' H'
  | .ok (.rt d) S => ∀ g' H' v, G.Le g g' → SR K g' H' S → Rp K g' d v → E.rt v H'
  | .ok (.xc c fs env) S => ∀ g' H' σ' cls dx, G.Le g g' → SR K g' H' S → Slots K g' env σ' → RpX K g' c fs cls dx → W cls dx σ' H'
  | .exc _ _ _ => False
  | .bad => False
def tSt (K : Frag) (W : WX) (r : DS) : TS := fun E σ H => ∃ g env S, SR K g H S ∧ Slots K g env σ ∧ OutS K W g (r env S) E
section
variable {K : Frag} {W : WX} {σ : St} {g g' : G} {α : Type} {r : Res α} {E E' : Ends}
theorem OutS.mono {r : Res Fl} (h : OutS K W g r E) (l : G.Le g g') : OutS K W g' r E := by
  cases r with
  | ok f S => cases f with
    | nx env => exact fun g'' H' σ' l' s sl => h g'' H' σ' (l.trans l') s sl
    | bk env => exact fun g'' H' σ' l' s sl => h g'' H' σ' (l.trans l') s sl
    | ct env => exact fun g'' H' σ' l' s sl => h g'' H' σ' (l.trans l') s sl
    | rt d => exact fun g'' H' v l' s sl => h g'' H' v (l.trans l') s sl
    | xc c fs env => exact fun g'' H' σ' cls dx l' s sl x => h g'' H' σ' cls dx (l.trans l') s sl x
  | exc c fs S => exact h
  | bad => exact h
theorem OutS.bind {env : Ev} {k : α → Sto → Res Fl} (h : OutS K W g (bindS r env k) E) (sl : Slots K g env σ) : Out K W σ g r fun a S g' _ => OutS K W g' (k a S) E := by
  cases r with
  | ok a S => exact fun g' H' l _ => OutS.mono (r := k a S) h l
  | exc c fs S => exact fun g' H' cls dx l s x => h g' H' σ cls dx l s (sl.mono l) x
  | bad => exact h.elim
end
theorem PS.imp {X : Cx} {st : Stmt} {t t' : TS} (h : PS X st t) (i : ∀ E σ H, t' E σ H → t E σ H) : PS X st t' := ⟨fun pins s σ H D I q => h.run pins s σ H D I (i D σ H q)⟩
theorem PSs.imp {X : Cx} {st : List Stmt} {t t' : TS} (h : PSs X st t) (i : ∀ E σ H, t' E σ H → t E σ H) : PSs X st t' := ⟨fun pins s σ H D I q => h.run pins s σ H D I (i D σ H q)⟩
theorem PS.bad {X : Cx} {st : Stmt} {K : Frag} {W : WX} : PS X st (tSt K W sBad) := ⟨fun _ _ _ _ _ _ h => let ⟨_, _, _, _, _, z⟩ := h; z.elim⟩
theorem PSs.bad {X : Cx} {st : List Stmt} {K : Frag} {W : WX} : PSs X st (tSt K W sBad) := ⟨fun _ _ _ _ _ _ h => let ⟨_, _, _, _, _, z⟩ := h; z.elim⟩
section
variable {X : Cx} {K : Frag} {W : WX} {a b c e : Expr} {ra rb : DE} {es : List Expr} {rs : DA} {pos p1 p2 : Pos} {tc : DT} {st : Stmt} {sts ta tb : List Stmt} {r r' : DS}
theorem ds_nil : PSs X [] (tSt K W sNext) := PSs.imp pss_nil fun E σ H ⟨g, env, S, sr, sl, o⟩ => o g H σ (G.Le.refl _) sr sl
theorem ds_cons (h1 : PS X st (tSt K W r)) (h2 : PSs X sts (tSt K W r')) : PSs X (st :: sts) (tSt K W (sSeq r r')) := PSs.imp (pss_cons h1 h2) fun E σ H ⟨g, env, S, sr, sl, o⟩ => by
  refine ⟨g, env, S, sr, sl, ?_⟩
  have o1 : OutS K W g (match r env S with
    | .ok (.nx env') S1 => r' env' S1
    | z => z) E := o
  cases h : r env S with
  | ok f S1 =>
    rw [h] at o1
    cases f with
    | nx env' => exact fun g' H' σ' l s sl' => ⟨g', env', S1, s, sl', OutS.mono (r := r' env' S1) o1 l⟩
    | bk env' => exact o1
    | ct env' => exact o1
    | rt d => exact o1
    | xc c fs env' => exact o1
  | exc c fs S1 => rw [h] at o1; exact o1
  | bad => rw [h] at o1; exact o1
theorem ds_pass : PS X (.Pass pos) (tSt K W sNext) := PS.imp ps_pass fun E σ H ⟨g, env, S, sr, sl, o⟩ => o g H σ (G.Le.refl _) sr sl
theorem ds_break : PS X (.Break pos) (tSt K W sBreak) := PS.imp ps_break fun E σ H ⟨g, env, S, sr, sl, o⟩ => o g H σ (G.Le.refl _) sr sl
theorem ds_cont : PS X (.Continue pos) (tSt K W sCont) := PS.imp ps_continue fun E σ H ⟨g, env, S, sr, sl, o⟩ => o g H σ (G.Le.refl _) sr sl
theorem ds_retN : PS X (.Return none pos) (tSt K W sRetN) := PS.imp ps_retN fun E σ H ⟨g, env, S, sr, sl, o⟩ => o g H _ (G.Le.refl _) sr .non
theorem ds_ret (ha : PE X a (tD K W ra)) : PS X (.Return (some a) pos) (tSt K W (sRet ra)) := PS.imp (ps_ret ha) fun E σ H ⟨g, env, S, sr, sl, o⟩ =>
  ⟨g, env, S, sr, sl, (OutS.bind o sl).imp fun d S1 g1 H1 l1 s1 o1 v r => o1 g1 H1 v (G.Le.refl _) s1 r⟩
theorem ds_if (hc : PT X c (tB K W tc)) (ha : PSs X ta (tSt K W r)) (hb : PSs X tb (tSt K W r')) : PS X (.If c ta tb pos) (tSt K W (sIf tc r r')) := PS.imp (ps_if hc ha hb) fun E σ H ⟨g, env, S, sr, sl, o⟩ => by
  refine ⟨g, env, S, sr, sl, (OutS.bind o sl).imp fun k S1 g1 H1 l1 s1 o1 => ?_⟩
  cases k with
  | true => exact ⟨g1, env, S1, s1, sl.mono l1, o1⟩
  | false => exact ⟨g1, env, S1, s1, sl.mono l1, o1⟩
theorem noComp_none (h : isComp e = false) (n : Nat) (env : Env) : swapsWith e none n env = pure false := by
  cases e <;> first | rfl | cases h
theorem noComp_some (h : isComp e = false) (t : Expr) (n : Nat) (env : Env) : swapsWith e (some t) n env = pure false := by
  cases e <;> first | rfl | cases h
theorem ds_drop (hn : isComp a = false) (ha : PE X a (tD K W ra)) : PS X (.Expr a pos) (tSt K W (sDrop ra)) := PS.imp (ps_expr ha (noComp_none hn _ _)) fun E σ H ⟨g, env, S, sr, sl, o⟩ =>
  ⟨g, env, S, sr, sl, (OutS.bind o sl).imp fun d S1 g1 H1 l1 s1 o1 v r => o1 g1 H1 σ (G.Le.refl _) s1 (sl.mono l1)⟩
/-! ### targets -/
def OutG (K : Frag) (g : G) (r : Res Ev) (Q : St → Hp → Prop) : Prop := match r with
  | .ok env S => ∀ g' H' σ', G.Le g g' → SR K g' H' S → Slots K g' env σ' → Q σ' H'
  | _ => False
def tGd (K : Frag) (r : DG) : TG := fun v σ H Q => ∃ g env S d, SR K g H S ∧ Slots K g env σ ∧ Rp K g d v ∧ OutG K g (r d env S) Q
def tGsd (K : Frag) (r : List D → Ev → Sto → Res Ev) : TGs := fun vs σ H Q => ∃ g env S ds, SR K g H S ∧ Slots K g env σ ∧ Rps K g ds vs ∧ OutG K g (r ds env S) Q
theorem OutG.mono {g g' : G} {r : Res Ev} {Q : St → Hp → Prop} (h : OutG K g r Q) (l : G.Le g g') : OutG K g' r Q := by
  cases r with
  | ok env S => exact fun g'' H' σ' l' s sl => h g'' H' σ' (l.trans l') s sl
  | exc c fs S => exact h
  | bad => exact h
theorem PG.imp {t : Expr} {u u' : TG} (h : PG X t u) (i : ∀ v σ H Q, u' v σ H Q → u v σ H Q) : PG X t u' := ⟨fun pins s σ H v w Q I r q => h.run pins s σ H v w Q I r (i v σ H Q q)⟩
theorem PGs.imp {t : List Expr} {u u' : TGs} (h : PGs X t u) (i : ∀ v σ H Q, u' v σ H Q → u v σ H Q) : PGs X t u' := ⟨fun pins s σ H v w Q I r q => h.run pins s σ H v w Q I r (i v σ H Q q)⟩
theorem PG.bad {t : Expr} : PG X t (tGd K gBad) := ⟨fun _ _ _ _ _ _ _ _ _ h => let ⟨_, _, _, _, _, _, _, z⟩ := h; z.elim⟩
theorem PGs.bad {t : List Expr} : PGs X t (tGsd K fun _ _ _ => .bad) := ⟨fun _ _ _ _ _ _ _ _ _ h => let ⟨_, _, _, _, _, _, _, z⟩ := h; z.elim⟩
theorem dg_name {i : Nat} {x : Str} (hN : X.N.Nodup) (hi : X.N[i]? = some x) (hx : Loc X.env.scope x) (hf : X.fn x = true ∨ X.env.scope.names.lookup x = some .local) : PG X (.Name x pos) (tGd K (gNm i)) :=
  PG.imp (pg_name hN hi hx hf) fun v σ H Q ⟨g, env, S, d, sr, sl, r, o⟩ => o g H _ (G.Le.refl _) sr (sl.set r i)
theorem dgs_nil : PGs X [] (tGsd K gNil) := PGs.imp pgs_nil fun vs σ H Q ⟨g, env, S, ds, sr, sl, r, o⟩ => by
  cases r with
  | nil => exact ⟨rfl, o g H σ (G.Le.refl _) sr sl⟩
  | cons _ _ => exact o.elim
theorem assign_each (h : noStar a = true) (es : List Expr) (env : Env) : assignEach (a :: es) env = (false, assign a env) :: assignEach es env := by
  cases a <;> first | rfl | cases h
theorem dgs_cons {u : DG} {us : List D → Ev → Sto → Res Ev} (hs : noStar a = true) (h1 : PG X a (tGd K u)) (h2 : PGs X es (tGsd K us)) : PGs X (a :: es) (tGsd K (gCons u us)) :=
  PGs.imp (pgs_cons h1 h2 (by rw [assign_each hs]; rfl)) fun vs σ H Q ⟨g, env, S, ds, sr, sl, r, o⟩ => by
    cases r with
    | nil => exact o.elim
    | @cons d v ds vs rd rds =>
      refine ⟨v, vs, rfl, g, env, S, d, sr, sl, rd, ?_⟩
      have o1 : OutG K g ((u d env S).bind fun env' S1 => us ds env' S1) Q := o
      cases h : u d env S with
      | ok env' S1 =>
        rw [h] at o1
        exact fun g' H' σ' l s sl' => ⟨g', env', S1, ds, s, sl', rds.mono l, OutG.mono (r := us ds env' S1) o1 l⟩
      | exc c fs S1 => rw [h] at o1; exact o1.elim
      | bad => rw [h] at o1; exact o1.elim
theorem each_len : ∀ (es : List Expr) (env : Env), (assignEach es env).length = es.length
  | [], _ => rfl
  | e :: es, env => by cases e <;> exact congrArg Nat.succ (each_len es env)
theorem each_star : ∀ {es : List Expr}, es.all noStar = true → ∀ env : Env, (assignEach es env).findIdx? (·.1) = none
  | [], _, _ => rfl
  | e :: es, h, env => by
    obtain ⟨h1, h2⟩ := Bool.and_eq_true_iff.mp (show (noStar e && es.all noStar) = true from h)
    rw [assign_each h1, List.findIdx?_cons]
    simp [each_star h2 env]
theorem dg_tup {k : Nat} {us : List D → Ev → Sto → Res Ev} (hK : X.K = K) (hc : X.calm = true) (hs : es.all noStar = true) (hl : ∀ ds env S env' S', us ds env S = .ok env' S' → ds.length = es.length) (h : PGs X es (tGsd K us)) : PG X (.Tuple es k pos) (tGd K (gTp us)) := by
  subst hK
  refine PG.imp (pg_tup (n := es.length) hc h (each_len es X.env) (each_star hs X.env)) fun v σ H Q ⟨g, env, S, d, sr, sl, r, o⟩ => ?_
  cases d with
  | tup ds =>
    cases r with
    | tup q1 q2 =>
      refine ⟨_, _, rfl, sqT_mono sr.f q1, ?_, g, env, S, ds, sr, sl, q2, o⟩
      rw [q2.length]
      have o1 : OutG X.K g (us ds env S) Q := o
      cases h : us ds env S with
      | ok env' S1 => exact hl _ _ _ _ _ h
      | exc c fs S1 => rw [h] at o1; exact o1.elim
      | bad => rw [h] at o1; exact o1.elim
  | _ => exact o.elim
theorem PE.noX {t : DE} (h : PE X a (tD K (fun _ _ _ _ => False) t)) (hx : ∀ u s, ¬ X.xe u s) : True := True.intro
/-- o.f = .. among targets -/
theorem dg_fld {ok : Str → Str → Bool} {f : Str} (hK : X.K = K) (hok : ∀ c f, ok c f = true → NoAttr K (He.ga K c) f) (ha : PE X a (tD K W ra)) : PG X (.Attribute a f pos) (tGd K (gFl ok f ra)) := by
  subst hK
  refine ⟨fun pins s σ H v u Q I r ⟨g, env, S, d, sr, sl, rd, o⟩ => ?_⟩
  have t : tD X.K W ra σ H fun x H1 => ∃ a C dx fs, x = .ref a ∧ H1 a = some (.ins C dx fs) ∧ Cls X.K C ∧ NoAttr X.K C f ∧ fs.length < 1000 ∧ Q σ (upd H1 a (.ins C dx (L2.putF f v fs))) := by
    refine ⟨g, env, S, sr, sl, ?_⟩
    have o1 : OutG X.K g ((noX (ra env S)).bind fun x S1 => match setFld ok S1 f x d with
      | some S2 => .ok env S2
      | none => .bad) Q := o
    cases h : ra env S with
    | ok x S1 =>
      rw [h] at o1
      have o2 : OutG X.K g (match setFld ok S1 f x d with
        | some S2 => .ok env S2
        | none => .bad) Q := o1
      intro g1 H1 l1 s1 vx rx
      cases x with
      | mu i =>
        cases rx with
        | @mu ad _ q =>
          cases z : S1[i]? with
          | none => simp only [setFld, z] at o2; exact o2.elim
          | some m =>
            cases m with
            | ins cn fs =>
              simp only [setFld, z] at o2
              by_cases c : (ok cn f && decide (fs.length < 900) && Pv.noMu d) = true
              · simp only [if_pos c] at o2
                obtain ⟨c1, c3⟩ := Bool.and_eq_true_iff.mp c
                obtain ⟨c1, c2⟩ := Bool.and_eq_true_iff.mp c1
                obtain ⟨fa, ka, dx, vs, hH, rf, nm, co⟩ := s1.m i _ ad z q
                refine ⟨ad, _, dx, vs, rfl, hH, co.cl, hok _ _ c1, by rw [rf.length]; have := of_decide_eq_true c2; omega, ?_⟩
                exact o2 g1 _ σ l1 (s1.write z q rfl ⟨fa, ka, dx, _, upd_same, Rpf.put (rd.mono l1) f rf, noMuf_put c3 f fs nm, co⟩) (sl.mono l1)
              · simp only [if_neg c] at o2; exact o2.elim
            | _ => simp only [setFld, z] at o2; exact o2.elim
      | _ => exact o2.elim
    | exc c fs S1 => rw [h] at o1; exact o1.elim
    | bad => rw [h] at o1; exact o1.elim
  show wpAny _ _ (do
    let ov ← holding [u] (eval a X.env)
    standAt pos.atName
    holding [u, ov] (setAttr ov f u)
    release [u, ov] []) _ _ s
  refine wpAny_bind (wpAny_holding (thn (ha.run pins s σ H _ I t) fun ov s1 ⟨x, H1, I1, rx, ad, C, dx, fs, ex, hH, cl, na, ln, q⟩ => ?_))
  subst ex
  obtain rfl : ov = Value.ref ad := rx
  refine wpAny_bind (wpAny_standAt (wpAny_bind (wpAny_holding (setattr_ok I1 hH cl na ln r fun s2 I2 => ?_))))
  exact wpAny_release ⟨σ, _, I2, q⟩
/-! o[i] = .. -/
def rSetA : TSet := fun o i v H Q => rSetL o i v H Q ∨ ∃ a H4, o = .ref a ∧ DPut H a i v H4 ∧ Q H4
theorem set_all (hu : X.A.units + 1 < cLine) : PSet X rSetA := by
  intro pins s σ H o i v ov iv u Q I ro ri rv h
  rcases h with h | ⟨a, H4, rfl, hp, q⟩
  · exact set_list pins s σ H o i v ov iv u Q I ro ri rv h
  · cases ro
    exact d_setItem hu I hp ri rv fun s4 I4 => ⟨H4, I4, q⟩
theorem setIx_ok {g : G} {H : Hp} {S S' : Sto} (h : SR K g H S) {o i v : D} {ov iv vv : V} (ro : Rp K g o ov) (ri : Rp K g i iv) (rv : Rp K g v vv) (e : setIx S o i v = some S') {Q : Hp → Prop} (q : ∀ H', SR K g H' S' → Q H') : rSetA ov iv vv H Q := by
  unfold setIx at e
  split at e
  · rename_i nv
    cases o with
    | mu n =>
      cases ro with
      | @mu a _ ea =>
        cases z : S[n]? with
        | none => simp only [z] at e; cases e
        | some m =>
          cases m with
          | lst ds =>
            simp only [z] at e
            cases i with
            | int j =>
              cases ri
              obtain ⟨k, e1, e2⟩ := Option.map_eq_some_iff.mp (show (ixN ds.length j).map (fun z => S.set n (.lst (ds.set z v))) = some S' from e)
              subst e2
              obtain ⟨fa, ka, vs, hH, rs, nm⟩ := h.m n _ a z ea
              refine .inl ⟨a, vs, j, k, rfl, rfl, hH, by rw [rs.length]; exact e1, q _ ?_⟩
              exact h.write z ea rfl ⟨fa, ka, _, upd_same, rs.set rv k, noMus_set nv ds k nm⟩
            | _ => cases e
          | dct kvs =>
            simp only [z] at e
            cases hk : keyD i with
            | none => simp only [hk] at e; cases e
            | some kz =>
              simp only [hk] at e
              by_cases c : kvs.length < sizeLine
              · rw [if_pos c] at e
                cases e
                obtain ⟨fa, ka, vs, hH, rs, nm⟩ := h.m n _ a z ea
                have ev := kV_key ri hk
                subst ev
                refine .inr ⟨a, _, rfl, DPut.k hH (by rw [rs.length]; exact c), q _ ?_⟩
                exact h.write z ea rfl ⟨fa, ka, _, upd_same, rs.put rv kz, noMuk_put nv kz kvs nm⟩
              · rw [if_neg c] at e; cases e
          | _ => simp only [z] at e; cases e
    | _ => cases e
  · cases e
theorem dg_sub (hu : X.A.units + 1 < cLine) (hn : isSlice b = false) (ha : PE X a (tD K W ra)) (hb : PE X b (tD K W rb)) : PG X (.Subscript a b pos) (tGd K (gSb ra rb)) := by
  have hass : ∀ v, assign (.Subscript a b pos) X.env v = (do
      let ov ← holding [v] (eval a X.env)
      let iv ← holding [v, ov] (eval b X.env)
      standAt pos
      holding [v, ov, iv] (setItem ov iv v)
      release [v, ov, iv] []) := fun v => by
    cases b <;> first | rfl | cases hn
  refine PG.imp (pg_sub ha hb (set_all hu) hass) fun v σ H Q ⟨g, env, S, d, sr, sl, rd, o⟩ => ?_
  have o1 : OutG K g ((noX (ra env S)).bind fun x S1 => (noX (rb env S1)).bind fun y S2 => match setIx S2 x y d with
    | some S3 => .ok env S3
    | none => .bad) Q := o
  refine ⟨g, env, S, sr, sl, ?_⟩
  cases h : ra env S with
  | ok x S1 =>
    rw [h] at o1
    intro g1 H1 l1 s1 vx rx
    refine ⟨g1, env, S1, s1, sl.mono l1, ?_⟩
    have o2 : OutG K g ((noX (rb env S1)).bind fun y S2 => match setIx S2 x y d with
      | some S3 => .ok env S3
      | none => .bad) Q := o1
    cases h2 : rb env S1 with
    | ok y S2 =>
      rw [h2] at o2
      intro g2 H2 l2 s2 vy ry
      have o3 : OutG K g (match setIx S2 x y d with
        | some S3 => .ok env S3
        | none => .bad) Q := o2
      cases h3 : setIx S2 x y d with
      | none => rw [h3] at o3; exact o3.elim
      | some S3 =>
        rw [h3] at o3
        exact setIx_ok s2 (rx.mono l2) ry (rd.mono (l1.trans l2)) h3 fun H' s' => o3 g2 H' σ (l1.trans l2) s' (sl.mono (l1.trans l2))
    | exc c fs S2 => rw [h2] at o2; exact o2.elim
    | bad => rw [h2] at o2; exact o2.elim
  | exc c fs S1 => rw [h] at o1; exact o1.elim
  | bad => rw [h] at o1; exact o1.elim
end
end Pv

set_option Elab.async false
set_option linter.all false
set_option maxRecDepth 100000
set_option maxHeartbeats 1000000
/-! Pv, part I: assignments and loops. -/
namespace Pv
open PySem L2
open PyProof.Rows hiding St
open PySem.W (Frag)
section
variable {X : Cx} {K : Frag} {W : WX} {a b c e t : Expr} {ra rb : DE} {es ts : List Expr} {rs : DA} {pos p1 p2 : Pos} {tc : DT} {st : Stmt} {sts ta tb : List Stmt} {r r' : DS} {rg : DG}
theorem asg_go {σ : St} {H : Hp} {E : Ends} {g : G} {env : Ev} {S : Sto} (sr : SR K g H S) (sl : Slots K g env σ) (o : OutS K W g (sAsg ra rg env S) E) : tD K W ra σ H fun x H1 => tGd K rg x σ H1 E.nx := by
  refine ⟨g, env, S, sr, sl, (OutS.bind o sl).imp fun d S1 g1 H1 l1 s1 o1 v rv => ?_⟩
  refine ⟨g1, env, S1, d, s1, sl.mono l1, rv, ?_⟩
  cases h : rg d env S1 with
  | ok env' S2 =>
    rw [h] at o1
    exact fun g' H' σ' l s sl' => o1 g' H' σ' l s sl'
  | exc c fs S2 => rw [h] at o1; exact o1.elim
  | bad => rw [h] at o1; exact o1.elim
theorem ds_set {i : Nat} {x : Str} (hN : X.N.Nodup) (hi : X.N[i]? = some x) (hx : Loc X.env.scope x) (hf : X.fn x = true ∨ X.env.scope.names.lookup x = some .local) (hn : isComp e = false) (he : PE X e (tD K W ra)) : PS X (.Assign [.Name x p1] e pos) (tSt K W (sAsg ra (gNm i))) :=
  PS.imp (ps_set hN hi hx he (noComp_some hn _ _ _) hf) fun E σ H ⟨g, env, S, sr, sl, o⟩ => by
    refine ⟨g, env, S, sr, sl, (OutS.bind o sl).imp fun d S1 g1 H1 l1 s1 o1 v rv => ?_⟩
    exact o1 g1 H1 _ (G.Le.refl _) s1 ((sl.mono l1).set rv i)
theorem noSwap (h : (isSeq t && isTup e) = false) (env : Env) : swappedStores [t] e env = pure none := by
  cases t <;> first | rfl | skip
  · cases e <;> first | rfl | cases h
  · cases e <;> first | rfl | cases h
theorem ds_asg (hn : isComp e = false) (hq : swappedStores [t] e X.env = pure none) (hs : noStar t = true) (he : PE X e (tD K W ra)) (hg : PG X t (tGd K rg)) : PS X (.Assign [t] e pos) (tSt K W (sAsg ra rg)) :=
  PS.imp (ps_asg he hg (noComp_some hn _ _ _) hq (by rw [assign_each hs]; rfl)) fun E σ H ⟨g, env, S, sr, sl, o⟩ => asg_go sr sl o
/-! a, b = x, y by the names from the right -/
theorem swap_sem (hk : X.env.scope.kind = .function) {k1 k2 : Nat} : match swapD X.env.scope ts es with
    | some (some names) => swappedStores [.Tuple ts k1 p1] (.Tuple es k2 p2) X.env = pure (some names)
    | some none => swappedStores [.Tuple ts k1 p1] (.Tuple es k2 p2) X.env = pure none
    | none => True := by
  have hb : X.env.blockKind = .function := by
    unfold Env.blockKind
    rw [hk]
    rfl
  have h : swappedStores [.Tuple ts k1 p1] (.Tuple es k2 p2) X.env = (if (!(ts.length == 2 || ts.length == 3) || es.length != ts.length || X.env.blockKind != .function) = true then pure none
      else if es.any isStarE = true then pure none
      else if ((ts.filterMap (nameAt X.env.scope ((ts.head?.map (·.pos.line)).getD 0))).length != ts.length || (ts.filterMap (nameAt X.env.scope ((ts.head?.map (·.pos.line)).getD 0))).eraseDups.length != (ts.filterMap (nameAt X.env.scope ((ts.head?.map (·.pos.line)).getD 0))).length) = true then pure none
      else if es.all (foldedForSure 8) = true then pure none
      else if es.all (constantsAlone 8) = true then (do unsupported "assign.tuple-of-constant-expressions:order-of-the-stores"; pure (some (ts.filterMap (nameAt X.env.scope ((ts.head?.map (·.pos.line)).getD 0)))))
      else pure (some (ts.filterMap (nameAt X.env.scope ((ts.head?.map (·.pos.line)).getD 0))))) := rfl
  rw [h, hb]
  unfold swapD
  rw [show ((ScopeKind.function != ScopeKind.function) = false) from rfl, Bool.or_false]
  by_cases c1 : (!(ts.length == 2 || ts.length == 3) || es.length != ts.length) = true
  · rw [if_pos c1, if_pos c1]
  · rw [if_neg c1, if_neg c1]
    by_cases c2 : es.any isStarE = true
    · rw [if_pos c2, if_pos c2]
    · rw [if_neg c2, if_neg c2]
      generalize ts.filterMap (nameAt X.env.scope ((ts.head?.map (·.pos.line)).getD 0)) = names
      by_cases c3 : (names.length != ts.length || names.eraseDups.length != names.length) = true
      · rw [if_pos c3, if_pos c3]
      · rw [if_neg c3, if_neg c3]
        by_cases c4 : es.all (foldedForSure 8) = true
        · rw [if_pos c4, if_pos c4]
        · rw [if_neg c4, if_neg c4]
          by_cases c5 : es.all (constantsAlone 8) = true
          · rw [if_pos c5, if_pos c5]
            trivial
          · rw [if_neg c5, if_neg c5]
/-- three names at once, stored from the right -/
theorem ps_par3 {i j k : Nat} {x y z : Str} {e1 e2 e3 : Expr} {ta : TA} {px py pz pt pt2 : Pos} {kt k2 : Nat} (hc : X.calm = true) (hN : X.N.Nodup) (hi : X.N[i]? = some x) (hj : X.N[j]? = some y) (hk : X.N[k]? = some z)
    (hx : X.env.scope.names.lookup x = some .local) (hy : X.env.scope.names.lookup y = some .local) (hz : X.env.scope.names.lookup z = some .local) (ha : PA X [e1, e2, e3] ta)
    (hw : swappedStores [.Tuple [.Name x px, .Name y py, .Name z pz] kt pt] (.Tuple [e1, e2, e3] k2 pt2) X.env = pure (some [x, y, z])) :
    PS X (.Assign [.Tuple [.Name x px, .Name y py, .Name z pz] kt pt] (.Tuple [e1, e2, e3] k2 pt2) pos) (fun E σ H => ta σ H fun vs H1 => ∃ u v w, vs = [u, v, w] ∧ E.nx (((σ.set k (some w)).set j (some v)).set i (some u)) H1) := by
  refine ⟨fun pins s σ H E I h => ?_⟩
  rw [exec_Assign_arm]
  refine wpAny_bind (wpAny_standAt ?_)
  rw [show swapsWithSole [.Tuple [.Name x px, .Name y py, .Name z pz] kt pt] (.Tuple [e1, e2, e3] k2 pt2) pos.line X.env = pure false from rfl]
  refine wpAny_bind (wpAny_pure ?_)
  rw [if_neg Bool.false_ne_true]
  refine wpAny_bind (Tuple_ (thn (ha.run _ pins s σ H _ I h) fun us s1 ⟨vs, H1, I1, r1, u, v, w, ev, q1⟩ => ?_))
  subst ev
  obtain ⟨u1, u2, u3, rfl, ru, rv, rw'⟩ : ∃ u1 u2 u3, us = [u1, u2, u3] ∧ RelV u u1 ∧ RelV v u2 ∧ RelV w u3 := by
    cases r1 with
    | cons q1 t1 => cases t1 with
      | cons q2 t2 => cases t2 with
        | cons q3 t3 => cases t3; exact ⟨_, _, _, rfl, q1, q2, q3⟩
  refine wpAny_newObj_type ?_ (by show 3 ≤ sizeLine; decide)
  have J := I1.kept (t' := s1.toks) (h' := s1.heap.push { cls := .type "tuple", data := .seq [u1, u2, u3].toArray }) fun b o e => Heap.get?_push_of_some _ e
  rw [hw]
  refine wpAny_bind (wpAny_pure ?_)
  show wpAny (model X.prog X.w) X.A (do rule "assign.swapped-stores"; let items ← unpackItems (.ref s1.heap.objs.size) 3 none; assignInOrder [fun v => bindName X.env z v, fun v => bindName X.env y v, fun v => bindName X.env x v] items.reverse; pure Flow.next) _ _ _
  refine wpAny_bind (wpAny_rule (wpAny_bind (unpackItems_tuple (items := #[u1, u2, u3]) (I.ok.hd hc) (IsTup.new s1.heap _) fun h' hx' => ?_)))
  have J2 := J.kept (h' := h') (t' := s1.toks) fun b o e => hx' b o (Nat.ne_of_lt (Heap.lt_size e)) e
  show wpAny _ _ (assignInOrder [fun v => bindName X.env z v, fun v => bindName X.env y v, fun v => bindName X.env x v] [u3, u2, u1] >>= fun _ => pure Flow.next) _ _ _
  refine wpAny_bind (assignInOrder_cons (wpAny_bindName (store_ok J2 hN hk (.inl hz) rw' (fun s2 J3 => ?_) (.inr hz))))
  refine assignInOrder_cons (wpAny_bindName (store_ok J3 hN hj (.inl hy) rv (fun s3 J4 => ?_) (.inr hy)))
  refine assignInOrder_cons (wpAny_bindName (store_ok J4 hN hi (.inl hx) ru (fun s4 J5 => assignInOrder_nil (wpAny_pure ?_)) (.inr hx)))
  exact ⟨_, H1, J5, q1⟩
theorem ds_par2 {i j : Nat} {x y : Str} {e1 e2 : Expr} {px py pt pt2 : Pos} {kt k2 : Nat} (hc : X.calm = true) (hN : X.N.Nodup) (hi : X.N[i]? = some x) (hj : X.N[j]? = some y) (hij : i ≠ j) (hx : X.env.scope.names.lookup x = some .local) (hy : X.env.scope.names.lookup y = some .local)
    (ha : PA X [e1, e2] (tAs K W rs)) (hw : swappedStores [.Tuple [.Name x px, .Name y py] kt pt] (.Tuple [e1, e2] k2 pt2) X.env = pure (some [x, y])) :
    PS X (.Assign [.Tuple [.Name x px, .Name y py] kt pt] (.Tuple [e1, e2] k2 pt2) pos) (tSt K W (sAsg (eTup rs) (gTp (gCons (gNm i) (gCons (gNm j) gNil))))) :=
  PS.imp (ps_par hc hN hi hj hij hx hy ha hw rfl) fun E σ H ⟨g, env, S, sr, sl, o⟩ => by
    refine ⟨g, env, S, sr, sl, ?_⟩
    have o1 := OutS.bind o sl
    refine (Out.bind o1).imp fun ds S1 g1 H1 l1 s1 o2 vs rvs => ?_
    by_cases cz : ds.length ≤ sizeLine
    · rw [if_pos cz] at o2
      have o3 := o2 g1 H1 (G.Le.refl _) s1
      cases rvs with
      | nil => exact o3.elim
      | cons r1 t1 => cases t1 with
        | nil => exact o3.elim
        | cons r2 t2 => cases t2 with
          | nil => exact ⟨_, _, rfl, o3 g1 H1 _ (G.Le.refl _) s1 (((sl.mono l1).set r1 i).set r2 j)⟩
          | cons _ _ => exact o3.elim
    · rw [if_neg cz] at o2
      exact o2.elim
theorem ds_par3 {i j k : Nat} {x y z : Str} {e1 e2 e3 : Expr} {px py pz pt pt2 : Pos} {kt k2 : Nat} (hc : X.calm = true) (hN : X.N.Nodup) (hi : X.N[i]? = some x) (hj : X.N[j]? = some y) (hk : X.N[k]? = some z) (hij : i ≠ j) (hik : i ≠ k) (hjk : j ≠ k)
    (hx : X.env.scope.names.lookup x = some .local) (hy : X.env.scope.names.lookup y = some .local) (hz : X.env.scope.names.lookup z = some .local)
    (ha : PA X [e1, e2, e3] (tAs K W rs)) (hw : swappedStores [.Tuple [.Name x px, .Name y py, .Name z pz] kt pt] (.Tuple [e1, e2, e3] k2 pt2) X.env = pure (some [x, y, z])) :
    PS X (.Assign [.Tuple [.Name x px, .Name y py, .Name z pz] kt pt] (.Tuple [e1, e2, e3] k2 pt2) pos) (tSt K W (sAsg (eTup rs) (gTp (gCons (gNm i) (gCons (gNm j) (gCons (gNm k) gNil)))))) :=
  PS.imp (ps_par3 hc hN hi hj hk hx hy hz ha hw) fun E σ H ⟨g, env, S, sr, sl, o⟩ => by
    refine ⟨g, env, S, sr, sl, ?_⟩
    have o1 := OutS.bind o sl
    refine (Out.bind o1).imp fun ds S1 g1 H1 l1 s1 o2 vs rvs => ?_
    by_cases cz : ds.length ≤ sizeLine
    · rw [if_pos cz] at o2
      have o3 := o2 g1 H1 (G.Le.refl _) s1
      cases rvs with
      | nil => exact o3.elim
      | cons r1 t1 => cases t1 with
        | nil => exact o3.elim
        | cons r2 t2 => cases t2 with
          | nil => exact o3.elim
          | cons r3 t3 => cases t3 with
            | nil =>
              refine ⟨_, _, _, rfl, ?_⟩
              have q := o3 g1 H1 _ (G.Le.refl _) s1 ((((sl.mono l1).set r1 i).set r2 j).set r3 k)
              rw [List.set_comm _ _ hjk, List.set_comm _ _ hik, List.set_comm _ _ hij] at q
              exact q
            | cons _ _ => exact o3.elim
    · rw [if_neg cz] at o2
      exact o2.elim
/-! ### x op= e, x.append(e) -/
theorem ds_aug {op : Operator} {f : Sto → D → D → Option D} {ro : R2} {i : Nat} {x : Str} (ho : OpR X (inplaceOp op) ro) (hd : OpD K f ro) (hN : X.N.Nodup) (hi : X.N[i]? = some x) (hx : Loc X.env.scope x) (hf : X.fn x = true ∨ X.env.scope.names.lookup x = some .local) (he : PE X e (tD K W ra)) :
    PS X (.AugAssign (.Name x p1) op e pos) (tSt K W (sAug i f ra)) :=
  PS.imp (ps_aug (ti := ro) hN hi hx he (fun pins s σ H x y v u Q I r1 r2 h => ho pins s σ H x y v u Q I r1 r2 h) hf) fun E σ H ⟨g, env, S, sr, sl, o⟩ => by
    unfold sAug at o
    cases h : env[i]? with
    | none => simp only [h] at o; exact o.elim
    | some z =>
      cases z with
      | none => simp only [h] at o; exact o.elim
      | some x0 =>
        simp only [h] at o
        obtain ⟨v0, e0, r0⟩ := sl.get i x0 h
        refine ⟨v0, e0, g, env, S, sr, sl, (OutS.bind o sl).imp fun d S1 g1 H1 l1 s1 o1 v rv => ?_⟩
        cases hfo : f S1 x0 d with
        | none => rw [hfo] at o1; exact o1.elim
        | some zz =>
          rw [hfo] at o1
          exact hd g1 H1 S1 x0 d v0 v zz _ s1 (r0.mono l1) rv hfo fun g2 H2 w l2 s2 rw' => o1 g2 H2 _ l2 s2 ((sl.mono (l1.trans l2)).set rw' i)
theorem app_ok {g : G} {H : Hp} {S S' : Sto} (h : SR K g H S) {x y : D} {vx vy : V} (rx : Rp K g x vx) (ry : Rp K g y vy) (e : appD S x y = some S') : ∃ l xs, vx = .ref l ∧ H l = some (.lst xs) ∧ xs.length < sizeLine ∧ SR K g (upd H l (.lst (xs ++ [vy]))) S' := by
  unfold appD at e
  cases x with
  | mu n =>
    cases rx with
    | @mu a _ ea =>
      cases z : S[n]? with
      | none => simp only [z] at e; cases e
      | some m =>
        cases m with
        | lst ds =>
          simp only [z] at e
          by_cases c : (decide (ds.length < sizeLine) && Pv.noMu y) = true
          · rw [if_pos c] at e
            cases e
            obtain ⟨c1, c2⟩ := Bool.and_eq_true_iff.mp c
            obtain ⟨fa, ka, vs, hH, rs, nm⟩ := h.m n _ a z ea
            refine ⟨a, vs, rfl, hH, by rw [rs.length]; exact of_decide_eq_true c1, ?_⟩
            refine h.write z ea rfl ⟨fa, ka, _, upd_same, rs.append (.cons ry .nil), ?_⟩
            rw [noMus_append, nm]
            exact Bool.and_eq_true_iff.mpr ⟨rfl, Bool.and_eq_true_iff.mpr ⟨c2, rfl⟩⟩
          · rw [if_neg c] at e; cases e
        | _ => simp only [z] at e; cases e
  | _ => cases e
theorem isMuL_ok {g : G} {H : Hp} {S : Sto} (h : SR K g H S) {x : D} {v : V} (r : Rp K g x v) (e : isMuL S x = true) : ∃ p xs, v = .ref p ∧ H p = some (.lst xs) := by
  cases x with
  | mu n =>
    cases r with
    | @mu a _ ea =>
      have e1 : (match S[n]? with
        | some (.lst _) => true
        | _ => false) = true := e
      cases z : S[n]? with
      | none => rw [z] at e1; cases e1
      | some m =>
        cases m with
        | lst ds =>
          obtain ⟨_, _, vs, hH, _, _⟩ := h.m n _ a z ea
          exact ⟨a, vs, rfl, hH⟩
        | _ => rw [z] at e1; cases e1
  | _ => cases e
theorem ds_app {q1 q2 : Pos} (hK : X.K = K) (hs : isSup a = false) (hn : noStar b = true) (hl : (q1.endLine == q2.line) = true) (ha : PE X a (tD K W ra)) (hb : PE X b (tD K W rb)) : PS X (.Expr (.Call (.Attribute a "append" q1) [b] [] q2) pos) (tSt K W (sApp ra rb)) := by
  subst hK
  have e1 := noStar_each hn [] X.env
  have few : ((backTo q2 (starEach [b] X.env)).all (fun x => !x.1) && (backToKw q2 (keywordEach [] X.env)).all (fun x => x.1.isSome) && decide (([b] : List Expr).length + ([] : List Keyword).length + (if ([] : List Keyword).isEmpty then 0 else 1) < 30)) = true := by
    rw [e1]
    rfl
  refine PS.imp (ps_expr (pe_bm PySem.F.plainAttrs_list PySem.F.slot_list_append PySem.F.type_list_append mt_append ha (pa_cons hb pa_nil e1) (base_of hs _ _ _) few hl e1 (star_any (es := []) rfl X.env q2)) rfl) fun E σ H ⟨g, env, S, sr, sl, o⟩ => ?_
  refine ⟨g, env, S, sr, sl, (OutS.bind o sl).imp fun x S1 g1 H1 l1 s1 o1 vx rx => ?_⟩
  by_cases c : isMuL S1 x = true
  · rw [if_pos c] at o1
    obtain ⟨p, xs, rfl, hp⟩ := isMuL_ok s1 rx c
    refine ⟨.inl ⟨rfl, xs, SqL.of hp⟩, g1, env, S1, s1, sl.mono l1, (OutS.bind o1 (sl.mono l1)).imp fun y S2 g2 H2 l2 s2 o2 vy ry => ?_⟩
    cases h : appD S2 x y with
    | none => rw [h] at o2; exact o2.elim
    | some S3 =>
      rw [h] at o2
      obtain ⟨l, ys, ev, hH, ln, s3⟩ := app_ok s2 (rx.mono l2) ry h
      cases ev
      exact ⟨p, ys, vy, rfl, rfl, hH, ln, o2 g2 _ σ (G.Le.refl _) s3 (sl.mono (l1.trans l2))⟩
  · rw [if_neg c] at o1
    exact o1.elim
/-! ### loops -/
/-- an iterator gives just these items -/
structure ItD (K : Frag) (J : It) (g0 : G) (ds : List D) : Prop where
  go : ∀ (i : Nat) (H : Hp) (g : G) (S : Sto), G.Le g0 g → SR K g H S → i < ds.length → J.go i H
  stop : ∀ (H : Hp) (g : G) (S : Sto), G.Le g0 g → SR K g H S → J.stop ds.length H
  yld : ∀ (i : Nat) (H : Hp) (g : G) (S : Sto) (d : D) (x : V) (H' : Hp), G.Le g0 g → SR K g H S → ds[i]? = some d → J.yld i H x H' → ∃ g', G.Le g g' ∧ SR K g' H' S ∧ Rp K g' d x
theorem for_go {J : It} {g0 : G} {ds : List D} {σ : St} {H : Hp} {E : Ends} {env : Ev} {S : Sto} (hJ : ItD K J g0 ds) (sr : SR K g0 H S) (sl : Slots K g0 env σ) (o : OutS K W g0 (forD rg r ds env S) E) :
    ∃ V : Nat → Nat → St → Hp → Prop, (∃ m, V 0 m σ H) ∧ ∀ i m σ H, V i m σ H → (J.stop i H ∧ E.nx σ H) ∨ (J.go i H ∧ ∃ N : St → Hp → Prop, (∀ σ' H', N σ' H' → ∃ m', m' < m ∧ V (i + 1) m' σ' H') ∧
      ∀ x H', J.yld i H x H' → tGd K rg x σ H' fun σ2 H2 => tSt K W r { E with nx := N, ct := N, bk := E.nx } σ2 H2) := by
  refine ⟨fun i m σ H => m = ds.length - i ∧ i ≤ ds.length ∧ ∃ g env S, G.Le g0 g ∧ SR K g H S ∧ Slots K g env σ ∧ OutS K W g (forD rg r (ds.drop i) env S) E, ⟨ds.length, by simp, Nat.zero_le _, g0, env, S, G.Le.refl _, sr, sl, o⟩, ?_⟩
  rintro i m σ H ⟨rfl, hi, g, env, S, le, s, sl, o⟩
  by_cases c : i < ds.length
  · have hd : ds.drop i = ds[i] :: ds.drop (i + 1) := List.drop_eq_getElem_cons c
    rw [hd] at o
    have o1 : OutS K W g ((rg ds[i] env S).bind fun env1 S1 => match r env1 S1 with
      | .ok (.nx env2) S2 => forD rg r (ds.drop (i + 1)) env2 S2
      | .ok (.ct env2) S2 => forD rg r (ds.drop (i + 1)) env2 S2
      | .ok (.bk env2) S2 => .ok (.nx env2) S2
      | z => z) E := o
    refine .inr ⟨hJ.go i H g S le s c, fun σ' H' => ∃ g env S, G.Le g0 g ∧ SR K g H' S ∧ Slots K g env σ' ∧ OutS K W g (forD rg r (ds.drop (i + 1)) env S) E, fun σ' H' z => ⟨ds.length - (i + 1), by omega, rfl, c, z⟩, fun x H' y => ?_⟩
    obtain ⟨g', l', s', rx⟩ := hJ.yld i H g S ds[i] x H' le s (List.getElem?_eq_getElem c) y
    refine ⟨g', env, S, ds[i], s', sl.mono l', rx, ?_⟩
    cases h : rg ds[i] env S with
    | ok env1 S1 =>
      rw [h] at o1
      intro g2 H2 σ2 l2 s2 sl2
      refine ⟨g2, env1, S1, s2, sl2, ?_⟩
      have o2 : OutS K W g2 (match r env1 S1 with
        | .ok (.nx env2) S2 => forD rg r (ds.drop (i + 1)) env2 S2
        | .ok (.ct env2) S2 => forD rg r (ds.drop (i + 1)) env2 S2
        | .ok (.bk env2) S2 => .ok (.nx env2) S2
        | z => z) E := OutS.mono (r := match r env1 S1 with
        | .ok (.nx env2) S2 => forD rg r (ds.drop (i + 1)) env2 S2
        | .ok (.ct env2) S2 => forD rg r (ds.drop (i + 1)) env2 S2
        | .ok (.bk env2) S2 => .ok (.nx env2) S2
        | z => z) o1 (l'.trans l2)
      have le2 : G.Le g0 g2 := (le.trans l').trans l2
      cases hr : r env1 S1 with
      | ok f S2 =>
        rw [hr] at o2
        cases f with
        | nx env2 => exact fun g3 H3 σ3 l3 s3 sl3 => ⟨g3, env2, S2, le2.trans l3, s3, sl3, OutS.mono (r := forD rg r (ds.drop (i + 1)) env2 S2) o2 l3⟩
        | ct env2 => exact fun g3 H3 σ3 l3 s3 sl3 => ⟨g3, env2, S2, le2.trans l3, s3, sl3, OutS.mono (r := forD rg r (ds.drop (i + 1)) env2 S2) o2 l3⟩
        | bk env2 => exact o2
        | rt d => exact o2
        | xc c fs env2 => exact o2
      | exc c fs S2 => rw [hr] at o2; exact o2
      | bad => rw [hr] at o2; exact o2
    | exc c fs S1 => rw [h] at o1; exact o1.elim
    | bad => rw [h] at o1; exact o1.elim
  · have e : i = ds.length := by omega
    subst e
    rw [List.drop_length] at o
    exact .inl ⟨hJ.stop H g S le s, o g H σ (G.Le.refl _) s sl⟩
theorem itd_range {g0 : G} (lo hi : Int) : ItD K (Itr lo (hi - lo).toNat) g0 (rangeD lo hi) := by
  have hl : (rangeD lo hi).length = (hi - lo).toNat := by unfold rangeD; rw [List.length_map, List.length_range]
  refine ⟨fun i H g S _ _ h => by rw [hl] at h; exact h, fun H g S _ _ => by rw [hl]; exact Nat.le_refl _, fun i H g S d x H' le s hd y => ?_⟩
  obtain ⟨e1, e2⟩ := y
  subst e1 e2
  refine ⟨g, G.Le.refl _, s, ?_⟩
  unfold rangeD at hd
  rw [List.getElem?_map] at hd
  obtain ⟨k, h1, h2⟩ := Option.map_eq_some_iff.mp hd
  have : k = i := by
    have := List.getElem?_eq_some_iff.mp h1
    obtain ⟨q1, q2⟩ := this
    rw [List.getElem_range] at q2
    exact q2.symm
  subst this h2
  exact .int _
theorem itd_list {g0 : G} {p : Addr} {vs : List V} {ds : List D} (hF : g0.F p = some (.lst vs)) (r : Rps K g0 ds vs) : ItD K (Itl K p) g0 ds := by
  refine ⟨fun i H g S le s h => ?_, fun H g S le s => ⟨vs, SqL.of (s.f _ _ (le.F _ _ hF)), by rw [r.length]; exact Nat.le_refl _⟩, fun i H g S d x H' le s hd y => ?_⟩
  · obtain ⟨v, h1, _⟩ := r.get (List.getElem?_eq_getElem h)
    exact ⟨vs, v, SqL.of (s.f _ _ (le.F _ _ hF)), h1⟩
  · obtain ⟨e, y⟩ := y
    subst e
    obtain ⟨v, h1, h2⟩ := r.get hd
    have := y vs (SqL.of (s.f _ _ (le.F _ _ hF)))
    rw [h1] at this
    cases this
    exact ⟨g, G.Le.refl _, s, h2.mono le⟩
theorem itd_tup {g0 : G} {p : Addr} {vs : List V} {ds : List D} (hF : SqT K g0.F p vs) (r : Rps K g0 ds vs) : ItD K (Itt K p) g0 ds := by
  refine ⟨fun i H g S le s h => ?_, fun H g S le s => ⟨vs, sqT_mono (fun a o e => s.f a o (le.F a o e)) hF, by rw [r.length]; exact Nat.le_refl _⟩, fun i H g S d x H' le s hd y => ?_⟩
  · obtain ⟨v, h1, _⟩ := r.get (List.getElem?_eq_getElem h)
    exact ⟨vs, v, sqT_mono (fun a o e => s.f a o (le.F a o e)) hF, h1⟩
  · obtain ⟨e, y⟩ := y
    subst e
    obtain ⟨v, h1, h2⟩ := r.get hd
    have := y vs (sqT_mono (fun a o e => s.f a o (le.F a o e)) hF)
    rw [h1] at this
    cases this
    exact ⟨g, G.Le.refl _, s, h2.mono le⟩
theorem enum_get : ∀ (ds : List D) (k : Int) (i : Nat) (d : D), (enumD k ds)[i]? = some d → ∃ x, ds[i]? = some x ∧ d = .tup [.int (k + (i : Int)), x]
  | [], _, _, _, h => by simp [enumD] at h
  | x :: ds, k, 0, d, h => by
    simp [enumD] at h
    exact ⟨x, rfl, by rw [← h]; simp⟩
  | x :: ds, k, i + 1, d, h => by
    have h' : (enumD (k + 1) ds)[i]? = some d := by simpa [enumD] using h
    obtain ⟨y, h1, h2⟩ := enum_get ds (k + 1) i d h'
    refine ⟨y, by simpa using h1, ?_⟩
    rw [h2]
    have : k + 1 + (i : Int) = k + ((i + 1 : Nat) : Int) := by omega
    rw [this]
theorem enum_len : ∀ (ds : List D) (k : Int), (enumD k ds).length = ds.length
  | [], _ => rfl
  | _ :: ds, k => congrArg Nat.succ (enum_len ds (k + 1))
theorem itd_enum {g0 : G} {p : Addr} {vs : List V} {ds : List D} (hF : g0.F p = some (.lst vs)) (r : Rps K g0 ds vs) : ItD K (Ite K p) g0 (enumD 0 ds) := by
  refine ⟨fun i H g S le s h => ?_, fun H g S le s => ⟨vs, SqL.of (s.f _ _ (le.F _ _ hF)), by rw [r.length, enum_len]; exact Nat.le_refl _⟩, fun i H g S d x H' le s hd y => ?_⟩
  · rw [enum_len] at h
    obtain ⟨v, h1, _⟩ := r.get (List.getElem?_eq_getElem h)
    exact ⟨vs, v, SqL.of (s.f _ _ (le.F _ _ hF)), h1⟩
  · obtain ⟨T, z, rfl, hT, rfl, y⟩ := y
    obtain ⟨dx, hdx, rfl⟩ := enum_get ds 0 i d hd
    obtain ⟨v, h1, h2⟩ := r.get hdx
    have := y vs (SqL.of (s.f _ _ (le.F _ _ hF)))
    rw [h1] at this
    cases this
    have le' := lay_le (o := .tup [.int (i : Nat), z]) (s.fresh hT).1
    refine ⟨_, le', s.lay hT _, .tup (SqT.of upd_same) (.cons ?_ (.cons ((h2.mono le).mono le') .nil))⟩
    rw [Int.zero_add]
    exact .int _
/-- for over a list or a tuple -/
theorem pi_seq {tg l : Expr} {tl : TE} (hl : PE X l tl) : PI X tg l (fun σ H R => tl σ H fun x H1 => (∃ a, x = .ref a ∧ (∃ xs, SqL X.K H1 a xs) ∧ R (Itl X.K a) H1) ∨ ∃ a, x = .ref a ∧ (∃ xs, SqT X.K H1 a xs) ∧ R (Itt X.K a) H1) := by
  refine ⟨fun pins s σ H R I h => ?_⟩
  refine thn (hl.run pins s σ H _ I h) fun v s1 ⟨x, H1, I1, r1, q1⟩ => ?_
  have fp : ∀ b ∈ [s1.heap.objs.size], FpOk X pins H1 b := fun b hb => by
    obtain rfl : b = s1.heap.objs.size := by simpa using hb
    exact I1.fpOk (Nat.le_refl _) (I1.hok.fresh (Nat.le_refl _))
  rcases q1 with ⟨a, rfl, ⟨xs, hq⟩, q⟩ | ⟨a, rfl, ⟨xs, hq⟩, q⟩
  · cases r1
    obtain ⟨its, rv, pl, hz⟩ := I1.list hq
    exact wpAny_pyIter_list pl.isList ⟨_, _, _, _, H1, rfl, I1.kept (t' := s1.toks) fun b o e => Heap.get?_push_of_some _ e, turn_list a _, ⟨_, Heap.get?_push_size _ rfl, rfl, rfl⟩, fp, q⟩
  · cases r1
    obtain ⟨its, rv, pl, hz⟩ := I1.tuple hq
    exact wpAny_pyIter_tuple (show s1.heap.IsTuple a its.toArray from pl) ⟨_, _, _, _, H1, rfl, I1.kept (t' := s1.toks) fun b o e => Heap.get?_push_of_some _ e, turn_tuple a _, ⟨_, Heap.get?_push_size _ rfl, rfl, rfl⟩, fp, q⟩
theorem noSet (h : isSet e = false) (env : Env) (x : Value) : foldedSetIterable e env x = pure x := by
  cases e <;> first | rfl | cases h
theorem ds_for (hK : X.K = K) (hp : PassesOwn (model X.prog X.w) X.A X.env X.xe) (hc : X.calm = true) (hn : isSet e = false) (he : PE X e (tD K W ra)) (hg : PG X t (tGd K rg)) (hb : PSs X tb (tSt K W r)) : PS X (.For t e tb [] pos) (tSt K W (sFor ra rg r)) := by
  subst hK
  refine PS.imp (ps_for hp hc (pi_seq he) hg hb (noSet hn X.env)) fun E σ H ⟨g, env, S, sr, sl, o⟩ => ?_
  have o0 : OutS X.K W g (bindS ((ra env S).bind fun x S1 => .ok (frz1 S1 x).1 (frz1 S1 x).2) env fun x S1 => match itemsD x with
    | some ds => forD rg r ds env S1
    | none => .bad) E := o
  refine ⟨g, env, S, sr, sl, (Out.bind (OutS.bind o0 sl)).imp fun x S1 g1 H1 l1 s1 o1 v rv => ?_⟩
  obtain ⟨g2, l2, s2, r2⟩ := frz1_ok s1 rv
  have o2 := o1 g2 H1 l2 s2
  cases hx : (frz1 S1 x).1 with
  | lst ds =>
    rw [hx] at o2 r2
    cases r2 with
    | lst q1 q2 =>
      refine .inl ⟨_, rfl, ⟨_, SqL.of (s2.f _ _ q1)⟩, ?_⟩
      exact for_go (itd_list q1 q2) s2 (sl.mono (l1.trans l2)) o2
  | tup ds =>
    rw [hx] at o2 r2
    cases r2 with
    | tup q1 q2 =>
      refine .inr ⟨_, rfl, ⟨_, sqT_mono s2.f q1⟩, ?_⟩
      exact for_go (itd_tup q1 q2) s2 (sl.mono (l1.trans l2)) o2
  | _ => rw [hx] at o2; exact o2.elim
theorem ds_while {L : Nat} (hp : PassesOwn (model X.prog X.w) X.A X.env X.xe) (hc : PT X c (tB K W tc)) (hb : PSs X tb (tSt K W r)) : PS X (.While c tb [] pos) (tSt K W (whileD tc r L)) := by
  refine PS.imp (ps_while hp hc hb) fun E σ H ⟨g, env, S, sr, sl, o⟩ => ?_
  refine ⟨fun m σ H => ∃ g env S, SR K g H S ∧ Slots K g env σ ∧ OutS K W g (whileD tc r m env S) E, ⟨L, g, env, S, sr, sl, o⟩, ?_⟩
  rintro m σ H ⟨g, env, S, sr, sl, o⟩
  cases m with
  | zero => exact o.elim
  | succ n =>
    refine ⟨g, env, S, sr, sl, (OutS.bind o sl).imp fun k S1 g1 H1 l1 s1 o1 => ?_⟩
    cases k with
    | false => exact o1 g1 H1 σ (G.Le.refl _) s1 (sl.mono l1)
    | true =>
      refine ⟨fun σ' H' => ∃ g env S, SR K g H' S ∧ Slots K g env σ' ∧ OutS K W g (whileD tc r n env S) E, fun σ' H' z => ⟨n, Nat.lt_succ_self n, z⟩, g1, env, S1, s1, sl.mono l1, ?_⟩
      have o2 : OutS K W g1 (match r env S1 with
        | .ok (.nx env2) S2 => whileD tc r n env2 S2
        | .ok (.ct env2) S2 => whileD tc r n env2 S2
        | .ok (.bk env2) S2 => .ok (.nx env2) S2
        | z => z) E := o1
      cases hr : r env S1 with
      | ok f S2 =>
        rw [hr] at o2
        cases f with
        | nx env2 => exact fun g3 H3 σ3 l3 s3 sl3 => ⟨g3, env2, S2, s3, sl3, OutS.mono (r := whileD tc r n env2 S2) o2 l3⟩
        | ct env2 => exact fun g3 H3 σ3 l3 s3 sl3 => ⟨g3, env2, S2, s3, sl3, OutS.mono (r := whileD tc r n env2 S2) o2 l3⟩
        | bk env2 => exact o2
        | rt d => exact o2
        | xc c fs env2 => exact o2
      | exc c fs S2 => rw [hr] at o2; exact o2
      | bad => rw [hr] at o2; exact o2
theorem rg_some {x y : D} {ij : Int × Int} (h : rgD x y = some ij) : x = .int ij.1 ∧ y = .int ij.2 ∧ -(2 ^ 62) ≤ ij.1 ∧ ij.1 < 2 ^ 62 ∧ -(2 ^ 62) ≤ ij.2 ∧ ij.2 < 2 ^ 62 := by
  unfold rgD at h
  split at h
  · split at h
    · split at h
      · rename_i c
        cases h
        simp only [Bool.and_eq_true, decide_eq_true_eq] at c
        exact ⟨rfl, rfl, by omega, by omega, by omega, by omega⟩
      · cases h
    · cases h
  · cases h
theorem ds_forR1 {q1 q2 : Pos} (hp : PassesOwn (model X.prog X.w) X.A X.env X.xe) (hc : X.calm = true) (hgl : Gl X "range") (hm : X.mg "range" = none) (hn : noStar e = true) (he : PE X e (tD K W ra)) (hg : PG X t (tGd K rg)) (hb : PSs X tb (tSt K W r)) :
    PS X (.For t (.Call (.Name "range" q1) [e] [] q2) tb [] pos) (tSt K W (sForR (eC (.int 0)) ra rg r)) := by
  have e1 := noStar_each hn [] X.env
  refine PS.imp (ps_for hp hc (pi_range1 hgl hm (pa_cons he pa_nil e1) e1) hg hb) fun E σ H ⟨g, env, S, sr, sl, o⟩ => ?_
  have o0 : OutS K W g (bindS (ra env S) env fun y S2 => match rgD (.int 0) y with
    | some ij => forD rg r (rangeD ij.1 ij.2) env S2
    | none => .bad) E := o
  refine ⟨g, env, S, sr, sl, (OutS.bind o0 sl).imp fun y S2 g2 H2 l2 s2 o2 vy ry => ?_⟩
  cases h : rgD (.int 0) y with
  | none => rw [h] at o2; exact o2.elim
  | some ij =>
    rw [h] at o2
    obtain ⟨h1, h2, b1, b2, b3, b4⟩ := rg_some h
    subst h2
    cases ry
    have z : ij.1 = 0 := by injection h1 with h1; exact h1.symm
    have o3 : OutS K W g2 (forD rg r (rangeD 0 ij.2) env S2) E := by rw [← z]; exact o2
    refine ⟨ij.2, rfl, b3, b4, ?_⟩
    have J := itd_range (K := K) (g0 := g2) 0 ij.2
    rw [Int.sub_zero] at J
    exact for_go J s2 (sl.mono l2) o3
theorem ds_forR2 {q1 q2 : Pos} (hp : PassesOwn (model X.prog X.w) X.A X.env X.xe) (hc : X.calm = true) (hgl : Gl X "range") (hm : X.mg "range" = none) (hn : noStar a = true) (hn' : noStar b = true) (ha : PE X a (tD K W ra)) (hb' : PE X b (tD K W rb)) (hg : PG X t (tGd K rg)) (hb : PSs X tb (tSt K W r)) :
    PS X (.For t (.Call (.Name "range" q1) [a, b] [] q2) tb [] pos) (tSt K W (sForR ra rb rg r)) := by
  have e2 := noStar_each hn' [] X.env
  have e1 := noStar_each hn [b] X.env
  refine PS.imp (ps_for hp hc (pi_range2 hgl hm (pa_cons ha (pa_cons hb' pa_nil e2) e1) (by rw [e1, e2]; rfl) e2) hg hb) fun E σ H ⟨g, env, S, sr, sl, o⟩ => ?_
  refine ⟨g, env, S, sr, sl, (OutS.bind o sl).imp fun x S1 g1 H1 l1 s1 o1 vx rx => ?_⟩
  refine ⟨g1, env, S1, s1, sl.mono l1, (OutS.bind o1 (sl.mono l1)).imp fun y S2 g2 H2 l2 s2 o2 vy ry => ?_⟩
  cases h : rgD x y with
  | none => rw [h] at o2; exact o2.elim
  | some ij =>
    rw [h] at o2
    obtain ⟨h1, h2, b1, b2, b3, b4⟩ := rg_some h
    subst h1 h2
    cases rx
    cases ry
    exact ⟨ij.1, ij.2, rfl, ⟨b1, b2, b3, b4⟩, for_go (itd_range ij.1 ij.2) s2 (sl.mono (l1.trans l2)) o2⟩
theorem ds_forE {q1 q2 q3 : Pos} {k : Nat} (hK : X.K = K) (hp : PassesOwn (model X.prog X.w) X.A X.env X.xe) (hc : X.calm = true) (hgl : Gl X "enumerate") (hm : X.mg "enumerate" = none) (hn : noStar e = true) (he : PE X e (tD K W ra)) (hg : PG X (.Tuple ts k q3) (tGd K rg)) (hb : PSs X tb (tSt K W r)) :
    PS X (.For (.Tuple ts k q3) (.Call (.Name "enumerate" q1) [e] [] q2) tb [] pos) (tSt K W (sForE ra rg r)) := by
  subst hK
  have e1 := noStar_each hn [] X.env
  refine PS.imp (ps_for hp hc (pi_enum hgl hm (pa_cons he pa_nil e1) e1) hg hb) fun E σ H ⟨g, env, S, sr, sl, o⟩ => ?_
  have o0 : OutS X.K W g (bindS ((ra env S).bind fun x S1 => .ok (frz1 S1 x).1 (frz1 S1 x).2) env fun x S1 => match x with
    | .lst ds => forD rg r (enumD 0 ds) env S1
    | _ => .bad) E := o
  refine ⟨g, env, S, sr, sl, (Out.bind (OutS.bind o0 sl)).imp fun x S1 g1 H1 l1 s1 o1 v rv => ?_⟩
  obtain ⟨g2, l2, s2, r2⟩ := frz1_ok s1 rv
  have o2 := o1 g2 H1 l2 s2
  cases hx : (frz1 S1 x).1 with
  | lst ds =>
    rw [hx] at o2 r2
    cases r2 with
    | lst q1 q2 =>
      refine ⟨_, _, rfl, SqL.of (s2.f _ _ q1), ?_⟩
      exact for_go (itd_enum q1 q2) s2 (sl.mono (l1.trans l2)) o2
  | _ => rw [hx] at o2; exact o2.elim
end
end Pv

set_option Elab.async false
set_option linter.all false
set_option maxRecDepth 100000
set_option maxHeartbeats 1000000
/-! Pv, part J: the evaluator is right, expressions. -/
namespace Pv
open PySem L2
open PyProof.Rows hiding St
open PySem.W (Frag)
structure Ctx (p : Pol) (cf : Cf) (lv : Nat) (s : Sc) (X : Cx) (W : WX) : Prop where
  ok : Ok X.K X.mg p
  N : X.N = s.N
  nd : X.N.Nodup
  sc : X.env.scope = s.sc
  kind : X.env.scope.kind = .function
  calm : X.calm = true
  room : Room (lv + 1) X.A
  tk : Takes X W
  po : PassesOwn (model X.prog X.w) X.A X.env X.xe
  fn : ∀ x, X.fn x = true
  ff : ∀ x np ds, p.gl x = some (.fn np ds) → FnF X.prog X.w X.K X.mg X.base lv (He.ga X.K x) np ds (cf (x, none))
  fc : ∀ x np ds, p.gl x = some (.cls np ds) → FnF X.prog X.w X.K X.mg X.base lv (He.ma X.K (He.ga X.K x) "__init__") (np + 1) ds (cf (x, some "__init__"))
  fm : ∀ c m np ds, p.mt c m = some (np, ds) → FnF X.prog X.w X.K X.mg X.base lv (He.ma X.K (He.ga X.K c) m) (np + 1) ds (cf (c, some m))
theorem ixOf_get {x : Str} : ∀ {N : List Str} {i : Nat}, ixOf x N = some i → N[i]? = some x
  | [], _, h => by cases h
  | y :: r, i, h => by
    unfold ixOf at h
    by_cases c : y = x
    · rw [if_pos c] at h
      cases h
      rw [c]
      rfl
    · rw [if_neg c] at h
      obtain ⟨j, h1, rfl⟩ := Option.map_eq_some_iff.mp h
      rw [List.getElem?_cons_succ]
      exact ixOf_get h1
section
variable {p : Pol} {cf : Cf} {lv : Nat} {s : Sc} {X : Cx} {W : WX}
theorem slot_ok (C : Ctx p cf lv s X W) {x : Str} {i : Nat} (h : slot s x = some i) : X.N[i]? = some x ∧ Vis X.env.scope x ∧ (x == ("__debug__" : Str)) = false ∧ (x == ("__classdict__" : Str)) = false := by
  unfold slot at h
  by_cases c : (x == ("__debug__" : Str) || x == ("__classdict__" : Str)) = true
  · rw [if_pos c] at h; cases h
  · rw [if_neg c] at h
    have c' : (x == ("__debug__" : Str) || x == ("__classdict__" : Str)) = false := by simpa using c
    obtain ⟨c1, c2⟩ := Bool.or_eq_false_iff.mp c'
    rw [C.N]
    unfold Vis
    rw [C.sc]
    split at h
    · rename_i e; exact ⟨ixOf_get h, .inl e, c1, c2⟩
    · rename_i e; exact ⟨ixOf_get h, .inr (.inl e), c1, c2⟩
    · rename_i e; exact ⟨ixOf_get h, .inr (.inr e), c1, c2⟩
    · cases h
theorem slotW_ok (C : Ctx p cf lv s X W) {x : Str} {i : Nat} (h : slotW s x = some i) : X.N[i]? = some x ∧ L2.Loc X.env.scope x := by
  unfold slotW at h
  rw [C.N]
  unfold L2.Loc
  rw [C.sc]
  split at h
  · rename_i e; exact ⟨ixOf_get h, .inl e⟩
  · rename_i e; exact ⟨ixOf_get h, .inr e⟩
  · cases h
theorem Ctx.u65 (C : Ctx p cf lv s X W) : X.A.units + 65 < cLine := by have := C.room.un; omega
theorem Ctx.u1 (C : Ctx p cf lv s X W) : X.A.units + 1 < cLine := by have := C.room.un; omega
theorem mark_of {op : CmpOp} {b : Expr} (h : isSet b = false) : behindInMarks op b = false := by
  cases b <;> first | rfl | cases h
theorem dj_name (C : Ctx p cf lv s X W) {x : Str} {q : Pos} : PE X (.Name x q) (tD X.K W (dName p s x)) := by
  unfold dName
  split
  · rename_i i h
    obtain ⟨h1, h2, h3, h4⟩ := slot_ok C h
    exact de_var h1 h2 h3 h4
  · split
    · rename_i hg
      obtain ⟨g1, g2, g3⟩ := glob_of C.sc hg
      split
      · rename_i d hd
        obtain ⟨u, v, h1, h2, h3⟩ := C.ok.con x d hd
        exact PE.imp (pe_glob g1 h1 h2 g2) fun σ H Q h => tD.cst h3 h
      · exact PE.bad
    · exact PE.bad
theorem dj_bin (C : Ctx p cf lv s X W) {a b : Expr} {op : Operator} {q : Pos} {ra rb : DE} (ha : PE X a (tD X.K W ra)) (hb : PE X b (tD X.K W rb)) : PE X (.BinOp a op b q) (tD X.K W (eBin (bop op) ra rb)) := by
  have bad : (∀ S x y, bop op S x y = none) → PE X (.BinOp a op b q) (tD X.K W (eBin (bop op) ra rb)) := fun h => ⟨fun pins s σ H Q I t => by
    have z : ∀ (o : Operator), True := fun _ => trivial
    exact ((de_bin (op := op) (f := bop op) (r := fun _ _ _ _ => False) (pos := q) (fun _ _ _ _ _ _ _ _ _ _ _ _ h => h.elim) (fun g H S x y vx vy d Q _ _ _ e _ => by rw [h] at e; cases e) ha hb).run pins s σ H Q I t)⟩
  cases op with
  | Add => exact de_bin op_addA opd_add ha hb
  | Sub => exact de_bin op_sub opd_sub ha hb
  | Mult => exact de_bin op_mulA opd_mul ha hb
  | FloorDiv => exact de_bin op_fdivA opd_fdiv ha hb
  | Mod => exact de_bin op_modN opd_mod ha hb
  | Pow => exact de_bin op_pow opd_pow ha hb
  | _ => exact bad fun _ _ _ => rfl
theorem dj_rel (C : Ctx p cf lv s X W) (op : CmpOp) : ∃ r, OpR X (compareOp op) r ∧ OpD X.K (cop op) r := by
  cases op with
  | Lt => exact ⟨_, op_lt, opd_lt⟩
  | LtE => exact ⟨_, op_le, opd_le⟩
  | Gt => exact ⟨_, op_gt, opd_gt⟩
  | GtE => exact ⟨_, op_ge, opd_ge⟩
  | Eq => exact ⟨_, op_eqD C.room.units, opd_eq⟩
  | NotEq => exact ⟨_, op_neD C.room.units, opd_ne⟩
  | In => exact ⟨_, OpR.or (op_inT C.u65) (op_inD C.u65), opd_in⟩
  | NotIn => exact ⟨_, OpR.or (op_notInT C.u65) (op_notInD C.u65), opd_notIn⟩
  | Is => exact ⟨_, op_isN, opd_is⟩
  | IsNot => exact ⟨_, op_notN, opd_isNot⟩
theorem dj_cmp (C : Ctx p cf lv s X W) {a b : Expr} {op : CmpOp} {q : Pos} {ra rb : DE} (hn : isSet b = false) (ha : PE X a (tD X.K W ra)) (hb : PE X b (tD X.K W rb)) : PE X (.Compare a [op] [b] q) (tD X.K W (eBin (cop op) ra rb)) := by
  obtain ⟨r, h1, h2⟩ := dj_rel C op
  exact de_cmp h1 h2 ha hb (mark_of hn)
theorem dj_cmpT (C : Ctx p cf lv s X W) {a b : Expr} {op : CmpOp} {q : Pos} {ra rb : DE} (hn : isSet b = false) (ha : PE X a (tD X.K W ra)) (hb : PE X b (tD X.K W rb)) : PT X (.Compare a [op] [b] q) (tB X.K W (tOf (eBin (cop op) ra rb))) := by
  obtain ⟨r, h1, h2⟩ := dj_rel C op
  exact dt_cmp h1 h2 ha hb (mark_of hn)
theorem dj_args {f : Expr → DE} (h : ∀ e, PE X e (tD X.K W (f e))) : ∀ es : List Expr, PA X es (tAs X.K W (dArgs f es))
  | [] => da_nil
  | e :: es => by
    show PA X (e :: es) (tAs X.K W (if noStar e = true then aCons (f e) (dArgs f es) else fun _ _ => .bad))
    by_cases c : noStar e = true
    · rw [if_pos c]
      exact da_cons c (h e) (dj_args h es)
    · rw [if_neg c]
      exact PA.bad
theorem dj_bo {f : Expr → DE} (h : ∀ e, PE X e (tD X.K W (f e))) {q : Pos} : ∀ (op : BoolOp) (es : List Expr), PE X (.BoolOp op es q) (tD X.K W (dBo f op es))
  | op, [] => by cases op <;> exact PE.bad
  | .And, [e] => de_one (h e)
  | .Or, [e] => de_one (h e)
  | .And, e :: e' :: es => de_and rfl (h e) (dj_bo h .And (e' :: es))
  | .Or, e :: e' :: es => de_or rfl (h e) (dj_bo h .Or (e' :: es))
theorem dj_tbo {f : Expr → DT} (h : ∀ e, PT X e (tB X.K W (f e))) {q : Pos} : ∀ (op : BoolOp) (es : List Expr), PW X (.BoolOp op es q) (tB X.K W (dTBo f op es))
  | op, [] => by cases op <;> exact PW.bad
  | .And, [e] => dw_one (h e)
  | .Or, [e] => dw_one (h e)
  | .And, e :: e' :: es => dw_and (h e) (dj_tbo h .And (e' :: es))
  | .Or, e :: e' :: es => dw_or (h e) (dj_tbo h .Or (e' :: es))
theorem dj_pr {f : Expr → DE} (h : ∀ e, PE X e (tD X.K W (f e))) {q : Pos} : ∀ (ks : List (Option Expr)) (vs : List Expr), dictOk ks vs = true → PPd X X.K W q ks vs (dPr f ks vs)
  | [], [], _ => .nil
  | some k :: ks, v :: vs, e => .cons (h k) (h v) (dj_pr h ks vs e)
  | none :: ks, _ :: _, e => by cases e
  | none :: ks, [], e => by cases e
  | some k :: ks, [], e => by cases e
  | [], v :: vs, e => by cases e
theorem dj_dict {f : Expr → DE} (h : ∀ e, PE X e (tD X.K W (f e))) {q : Pos} {ks : List (Option Expr)} {vs : List Expr} (c : (dictOk ks vs && decide (ks.length ≤ 15)) = true) : PE X (.Dict ks vs q) (tD X.K W (eDct (dPr f ks vs))) ∧ PE X (.Dict ks vs q) (tD X.K W (mDct (dPr f ks vs))) := by
  obtain ⟨c1, c2⟩ := Bool.and_eq_true_iff.mp c
  have c3 := of_decide_eq_true c2
  have z := dj_pr h (q := q) ks vs c1
  cases ks with
  | nil =>
    cases vs with
    | nil => exact ⟨de_dnew, de_mdnew⟩
    | cons v vs => cases c1
  | cons k ks => exact ⟨de_dct z (by simp) c3, de_mdct z (by simp) c3⟩
theorem args0 {f : Expr → DE} {es : List Expr} (h : es = []) : ∀ σ H Q, tAs X.K W (dArgs f es) σ H Q → Q [] H := by
  subst h
  exact fun σ H Q ⟨g, env, S, sr, sl, o⟩ => o g H (G.Le.refl _) sr [] .nil
theorem dj_callN (C : Ctx p cf lv s X W) {f : Expr → DE} (h : ∀ e, PE X e (tD X.K W (f e))) {x : Str} {es : List Expr} {q1 q2 : Pos} (hs : es.all noStar = true) : PE X (.Call (.Name x q1) es [] q2) (tD X.K W (dCallN p cf s x es (dArgs f es))) := by
  unfold dCallN
  split
  · rename_i hg
    obtain ⟨g1, g2, g3⟩ := glob_of C.sc hg
    have ha := dj_args h es
    split
    · rename_i np ds e
      obtain ⟨h1, h2⟩ := C.ok.fn x np ds e
      exact de_call rfl (C.room.mono (Nat.le_succ _)) C.tk (C.ff x np ds e) h2 g1 h1 g2 hs args0 ha
    · rename_i np ds e
      obtain ⟨h1, h2, h3⟩ := C.ok.cls x np ds e
      exact de_make rfl C.room C.tk h2 h3 (C.fc x np ds e) g1 h1 g2 hs args0 ha
    · exact PE.bad
    · rename_i e
      split
      · rename_i c
        obtain ⟨c1, c3⟩ := Bool.and_eq_true_iff.mp c
        obtain ⟨c1, c2⟩ := Bool.and_eq_true_iff.mp c1
        cases es with
        | nil => cases c3
        | cons e es => exact de_bi rfl C.calm c2 g1 (C.ok.free x c1) hs ha
      · exact PE.bad
  · exact PE.bad
theorem noSt_of {es : List Expr} (h : ¬ es.all noStar = true) : True := trivial
/-- both at once -/
theorem dj_both (C : Ctx p cf lv s X W) : ∀ n : Nat, (∀ e, PE X e (tD X.K W (dE p cf n s e))) ∧ (∀ e, PT X e (tB X.K W (dT p cf n s e)))
  | 0 => ⟨fun e => PE.bad, fun e => PT.bad⟩
  | n + 1 => by
    obtain ⟨hE, hT⟩ := dj_both C n
    have hN : ∀ e, PE X e (tD X.K W (dE p cf (n + 1) s e)) := fun e => by
      cases e with
      | Constant c k q => exact de_const
      | Name x q => exact dj_name C
      | BinOp a op b q => exact dj_bin C (hE a) (hE b)
      | UnaryOp op a q =>
        cases op with
        | USub => exact de_neg (hE a)
        | Not => exact de_not rfl (hE a)
        | _ => exact PE.bad
      | BoolOp op es q => exact dj_bo hE op es
      | Compare a ops bs q =>
        match ops, bs with
        | [op], [b] =>
          show PE X (.Compare a [op] [b] q) (tD X.K W (if isSet b = true then eBad else eBin (cop op) (dE p cf n s a) (dE p cf n s b)))
          by_cases c : isSet b = true
          · rw [if_pos c]; exact PE.bad
          · rw [if_neg c]; exact dj_cmp C (by simpa using c) (hE a) (hE b)
        | [], _ => exact PE.bad
        | [_], [] => exact PE.bad
        | [_], _ :: _ :: _ => exact PE.bad
        | _ :: _ :: _, _ => exact PE.bad
      | IfExp c a b q => exact de_if (hT c) (hE a) (hE b)
      | Tuple es k q => exact de_tup (dj_args hE es)
      | List es q => exact de_lst (dj_args hE es)
      | Dict ks vs q =>
        show PE X (.Dict ks vs q) (tD X.K W (if (dictOk ks vs && decide (ks.length ≤ 15)) = true then eDct (dPr (dE p cf n s) ks vs) else eBad))
        by_cases c : (dictOk ks vs && decide (ks.length ≤ 15)) = true
        · rw [if_pos c]; exact (dj_dict hE c).1
        · rw [if_neg c]; exact PE.bad
      | Subscript a b q =>
        cases b with
        | Slice lo hi st q2 =>
          cases st with
          | none =>
            refine de_sl rfl (hE a) ?_ ?_
            · cases lo with
              | none => exact .none
              | some l => exact .some (hE l)
            · cases hi with
              | none => exact .none
              | some l => exact .some (hE l)
          | some _ => exact PE.bad
        | _ => exact de_ix C.u1 rfl (hE a) (hE _) fun _ _ => rfl
      | Attribute a f q =>
        show PE X (.Attribute a f q) (tD X.K W (if isSup a = true then eBad else eFld p.fld f (dE p cf n s a)))
        by_cases c : isSup a = true
        · rw [if_pos c]; exact PE.bad
        · rw [if_neg c]; exact de_fld rfl C.ok.fld (by simpa using c) (hE a)
      | Call f args kws q2 =>
        cases kws with
        | cons _ _ => exact PE.bad
        | nil =>
          by_cases c : args.all noStar = true
          · cases f with
            | Name x q1 =>
              have gen := dj_callN C hE (x := x) (q1 := q1) (q2 := q2) c
              match args, c, gen with
              | [a, cl], c, gen =>
                have e0 : dE p cf (n + 1) s (.Call (.Name x q1) [a, cl] [] q2) = if x = "isinstance" then dIsi p s (dE p cf n s a) cl else dCallN p cf s x [a, cl] (dArgs (dE p cf n s) [a, cl]) := by
                  show (if [a, cl].all noStar = true then _ else _) = _
                  rw [if_pos c]
                rw [e0]
                by_cases ci : x = "isinstance"
                · rw [if_pos ci]
                  subst ci
                  have c' : (noStar a && (noStar cl && true)) = true := c
                  obtain ⟨c1, c2⟩ := Bool.and_eq_true_iff.mp c'
                  exact de_isi C.ok C.sc c1 (Bool.and_eq_true_iff.mp c2).1 (hE a)
                · rw [if_neg ci]; exact gen
              | [], c, gen =>
                exact gen
              | [a], c, gen =>
                have e0 : dE p cf (n + 1) s (.Call (.Name x q1) [a] [] q2) = dCallN p cf s x [a] (dArgs (dE p cf n s) [a]) := by
                  show (if [a].all noStar = true then _ else _) = _
                  rw [if_pos c]
                rw [e0]; exact gen
              | a :: b :: d :: r, c, gen =>
                have e0 : dE p cf (n + 1) s (.Call (.Name x q1) (a :: b :: d :: r) [] q2) = dCallN p cf s x (a :: b :: d :: r) (dArgs (dE p cf n s) (a :: b :: d :: r)) := by
                  show (if (a :: b :: d :: r).all noStar = true then _ else _) = _
                  rw [if_pos c]
                rw [e0]; exact gen
            | Attribute o m q1 =>
              have e0 : dE p cf (n + 1) s (.Call (.Attribute o m q1) args [] q2) = if (!isSup o && (q1.endLine == q2.line) && decide (args.length < 29)) = true then eMeth cf p.io p.mt m (dE p cf n s o) (dArgs (dE p cf n s) args) else eBad := by
                show (if args.all noStar = true then _ else _) = _
                rw [if_pos c]
              rw [e0]
              by_cases ci : (!isSup o && (q1.endLine == q2.line) && decide (args.length < 29)) = true
              · rw [if_pos ci]
                obtain ⟨c1, c3⟩ := Bool.and_eq_true_iff.mp ci
                obtain ⟨c1, c2⟩ := Bool.and_eq_true_iff.mp c1
                exact de_meth rfl (C.room.mono (Nat.le_succ _)) C.tk (fun cn np dfl e => ⟨C.ok.meth cn m np dfl e, C.fm cn m np dfl e⟩) (by simpa using c1) c2 (of_decide_eq_true c3) c args0 (hE o) (dj_args hE args)
              · rw [if_neg ci]; exact PE.bad
            | _ =>
              show PE X _ (tD X.K W (if args.all noStar = true then eBad else eBad))
              rw [if_pos c]; exact PE.bad
          · have e0 : dE p cf (n + 1) s (.Call f args [] q2) = eBad := by
              show (if args.all noStar = true then _ else _) = _
              rw [if_neg c]
            rw [e0]; exact PE.bad
      | _ => exact PE.bad
    refine ⟨hN, fun e => ?_⟩
    cases e with
    | UnaryOp op a q =>
      cases op with
      | Not => exact dt_not (hT a)
      | _ => exact dt_of rfl (hE _) fun _ => rfl
    | BoolOp op es q => exact (dj_tbo hT op es).pt
    | IfExp c a b q => exact PT.bad
    | Compare a ops bs q =>
      match ops, bs with
      | [op], [b] =>
        show PT X (.Compare a [op] [b] q) (tB X.K W (if isSet b = true then tBad else tOf (eBin (cop op) (dE p cf n s a) (dE p cf n s b))))
        by_cases c : isSet b = true
        · rw [if_pos c]; exact PT.bad
        · rw [if_neg c]; exact dj_cmpT C (by simpa using c) (hE a) (hE b)
      | [], _ => exact PT.bad
      | [_], [] => exact PT.bad
      | [_], _ :: _ :: _ => exact PT.bad
      | _ :: _ :: _, _ => exact PT.bad
    | _ => exact dt_of rfl (hE _) fun _ => rfl
theorem dj_E (C : Ctx p cf lv s X W) (n : Nat) (e : Expr) : PE X e (tD X.K W (dE p cf n s e)) := (dj_both C n).1 e
theorem dj_T (C : Ctx p cf lv s X W) (n : Nat) (e : Expr) : PT X e (tB X.K W (dT p cf n s e)) := (dj_both C n).2 e
end
end Pv

set_option Elab.async false
set_option linter.all false
set_option maxRecDepth 100000
set_option maxHeartbeats 1000000
/-! Pv, part K: the evaluator is right, statements. -/
namespace Pv
open PySem L2
open PyProof.Rows hiding St
open PySem.W (Frag)
section
variable {p : Pol} {cf : Cf} {lv L : Nat} {s : Sc} {X : Cx} {W : WX}
theorem dk_M (C : Ctx p cf lv s X W) (n : Nat) (mk : Bool) (e : Expr) : PE X e (tD X.K W (dM p cf n s mk e)) := by
  have hE := dj_E C n
  unfold dM
  split
  · split
    · rename_i es q
      exact de_mlst (dj_args hE es)
    · rename_i ks vs q
      split
      · rename_i c
        exact (dj_dict hE c).2
      · exact PE.bad
    · exact hE e
  · exact hE e
theorem dk_Ms (C : Ctx p cf lv s X W) (n : Nat) : ∀ (ts es : List Expr), PA X es (tAs X.K W (dMs p cf n s ts es))
  | [], [] => da_nil
  | t :: ts, e :: es => by
    show PA X (e :: es) (tAs X.K W (if noStar e = true then aCons (dM p cf n s (isMv s t) e) (dMs p cf n s ts es) else fun _ _ => .bad))
    by_cases c : noStar e = true
    · rw [if_pos c]
      exact da_cons c (dk_M C n _ e) (dk_Ms C n ts es)
    · rw [if_neg c]
      exact PA.bad
  | [], e :: es => PA.bad
  | t :: ts, [] => PA.bad
theorem dGl_len {f : Expr → DG} : ∀ (es : List Expr) (ds : List D) (env : Ev) (S : Sto) (env' : Ev) (S' : Sto), dGl f es ds env S = .ok env' S' → ds.length = es.length
  | [], [], _, _, _, _, _ => rfl
  | [], d :: ds, _, _, _, _, h => by cases (show (Res.bad : Res Ev) = _ from h)
  | e :: es, ds, env, S, env', S', h => by
    have h0 : (if noStar e = true then gCons (f e) (dGl f es) else fun _ _ _ => .bad) ds env S = .ok env' S' := h
    by_cases c : noStar e = true
    · rw [if_pos c] at h0
      cases ds with
      | nil => cases (show (Res.bad : Res Ev) = _ from h0)
      | cons d ds =>
        have h1 : ((f e d env S).bind fun env' S1 => dGl f es ds env' S1) = .ok env' S' := h0
        cases hf : f e d env S with
        | ok env1 S1 =>
          rw [hf] at h1
          exact congrArg Nat.succ (dGl_len es ds env1 S1 env' S' h1)
        | exc c fs S1 => rw [hf] at h1; cases h1
        | bad => rw [hf] at h1; cases h1
    · rw [if_neg c] at h0
      cases h0
theorem dk_Gl {f : Expr → DG} (h : ∀ e, PG X e (tGd X.K (f e))) : ∀ es : List Expr, PGs X es (tGsd X.K (dGl f es))
  | [] => dgs_nil
  | e :: es => by
    show PGs X (e :: es) (tGsd X.K (if noStar e = true then gCons (f e) (dGl f es) else fun _ _ _ => .bad))
    by_cases c : noStar e = true
    · rw [if_pos c]
      exact dgs_cons c (h e) (dk_Gl h es)
    · rw [if_neg c]
      exact PGs.bad
theorem dk_G (C : Ctx p cf lv s X W) : ∀ (n : Nat) (e : Expr), PG X e (tGd X.K (dG p cf n s e))
  | 0, e => PG.bad
  | n + 1, e => by
    have hE := dj_E C n
    cases e with
    | Name x q =>
      show PG X (.Name x q) (tGd X.K (match slotW s x with
        | some i => gNm i
        | none => gBad))
      split
      · rename_i i h
        obtain ⟨h1, h2⟩ := slotW_ok C h
        exact dg_name C.nd h1 h2 (.inl (C.fn x))
      · exact PG.bad
    | Tuple es k q =>
      show PG X (.Tuple es k q) (tGd X.K (if es.all noStar = true then gTp (dGl (dG p cf n s) es) else gBad))
      by_cases c : es.all noStar = true
      · rw [if_pos c]
        exact dg_tup rfl C.calm c (dGl_len es) (dk_Gl (dk_G C n) es)
      · rw [if_neg c]
        exact PG.bad
    | Attribute o f q => exact dg_fld rfl C.ok.fld (hE o)
    | Subscript o i q =>
      show PG X (.Subscript o i q) (tGd X.K (if isSlice i = true then gBad else gSb (dE p cf n s o) (dE p cf n s i)))
      by_cases c : isSlice i = true
      · rw [if_pos c]; exact PG.bad
      · rw [if_neg c]; exact dg_sub C.u1 (by simpa using c) (hE o) (hE i)
    | _ => exact PG.bad
theorem isSeq_noStar {t : Expr} (h : (match t with | .Starred .. => true | _ => false) = false) : noStar t = true := by
  cases t <;> first | rfl | cases h
/-! the names of a, b = .. -/
theorem nameAt_some {sc : Scope} {ln : Nat} {t : Expr} {x : Str} (h : nameAt sc ln t = some x) : ∃ q, t = .Name x q ∧ sc.names.lookup x = some .local := by
  cases t with
  | Name id q =>
    have h0 : (if (sc.names.lookup id == some .local && q.line == ln) = true then some id else none) = some x := h
    by_cases c : (sc.names.lookup id == some .local && q.line == ln) = true
    · rw [if_pos c] at h0
      cases h0
      obtain ⟨c1, _⟩ := Bool.and_eq_true_iff.mp c
      refine ⟨q, rfl, ?_⟩
      cases hl : sc.names.lookup x with
      | none => rw [hl] at c1; cases c1
      | some k =>
        rw [hl] at c1
        cases k <;> first | rfl | cases c1
    · rw [if_neg c] at h0; cases h0
  | _ => cases h
theorem fm_full {α β : Type} (f : α → Option β) : ∀ (l : List α), (l.filterMap f).length = l.length → ∀ a ∈ l, ∃ b, f a = some b
  | [], _, a, h => by cases h
  | x :: l, hl, a, h => by
    cases hx : f x with
    | none =>
      rw [List.filterMap_cons_none hx] at hl
      have := List.length_filterMap_le f l
      simp only [List.length_cons] at hl
      omega
    | some b =>
      rw [List.filterMap_cons_some hx] at hl
      simp only [List.length_cons, Nat.add_right_cancel_iff] at hl
      cases h with
      | head => exact ⟨b, hx⟩
      | tail _ h => exact fm_full f l hl a h
theorem eraseDups2 {x y : Str} (h : ([x, y] : List Str).eraseDups.length = 2) : x ≠ y := fun e => by
  subst e
  simp [List.eraseDups_cons] at h
theorem eraseDups3 {x y z : Str} (h : ([x, y, z] : List Str).eraseDups.length = 3) : x ≠ y ∧ x ≠ z ∧ y ≠ z := by
  refine ⟨fun e => ?_, fun e => ?_, fun e => ?_⟩
  · subst e
    by_cases c : z = x
    · subst c; simp [List.eraseDups_cons] at h
    · have : (z == x) = false := by simpa using c
      simp [List.eraseDups_cons, this] at h
  · subst e
    by_cases c : y = x
    · subst c; simp [List.eraseDups_cons] at h
    · have : (y == x) = false := by simpa using c
      simp [List.eraseDups_cons, this] at h
  · subst e
    by_cases c : y = x
    · subst c; simp [List.eraseDups_cons] at h
    · have : (y == x) = false := by simpa using c
      simp [List.eraseDups_cons, this] at h
theorem swap_some {sc : Scope} {ts es : List Expr} {names : List Str} (h : swapD sc ts es = some (some names)) :
    (∃ x y q1 q2, ts = [.Name x q1, .Name y q2] ∧ names = [x, y] ∧ x ≠ y ∧ sc.names.lookup x = some .local ∧ sc.names.lookup y = some .local ∧ es.length = 2) ∨
    (∃ x y z q1 q2 q3, ts = [.Name x q1, .Name y q2, .Name z q3] ∧ names = [x, y, z] ∧ x ≠ y ∧ x ≠ z ∧ y ≠ z ∧ sc.names.lookup x = some .local ∧ sc.names.lookup y = some .local ∧ sc.names.lookup z = some .local ∧ es.length = 3) := by
  unfold swapD at h
  by_cases c1 : (!(ts.length == 2 || ts.length == 3) || es.length != ts.length) = true
  · rw [if_pos c1] at h; cases h
  rw [if_neg c1] at h
  by_cases c2 : es.any isStarE = true
  · rw [if_pos c2] at h; cases h
  rw [if_neg c2] at h
  generalize (ts.head?.map (·.pos.line)).getD 0 = ln at h
  by_cases c3 : ((ts.filterMap (nameAt sc ln)).length != ts.length || (ts.filterMap (nameAt sc ln)).eraseDups.length != (ts.filterMap (nameAt sc ln)).length) = true
  · rw [if_pos c3] at h; cases h
  rw [if_neg c3] at h
  by_cases c4 : es.all (foldedForSure 8) = true
  · rw [if_pos c4] at h; cases h
  rw [if_neg c4] at h
  by_cases c5 : es.all (constantsAlone 8) = true
  · rw [if_pos c5] at h; cases h
  rw [if_neg c5] at h
  have hn : ts.filterMap (nameAt sc ln) = names := Option.some.inj (Option.some.inj h)
  rw [hn] at c3
  have c3' : (names.length != ts.length || names.eraseDups.length != names.length) = false := by simpa using c3
  obtain ⟨d1, d2⟩ := Bool.or_eq_false_iff.mp c3'
  have d1' : names.length = ts.length := by simpa using d1
  have d2' : names.eraseDups.length = names.length := by simpa using d2
  have full := fm_full (nameAt sc ln) ts (by rw [hn]; exact d1')
  have c1' : (!(ts.length == 2 || ts.length == 3) || es.length != ts.length) = false := by simpa using c1
  obtain ⟨f1, f2⟩ := Bool.or_eq_false_iff.mp c1'
  have f2' : es.length = ts.length := by simpa using f2
  have f1' : ts.length = 2 ∨ ts.length = 3 := by
    by_cases z : ts.length = 2
    · exact .inl z
    · exact .inr ((by simpa using f1 : ¬ts.length = 2 → ts.length = 3) z)
  rcases f1' with hl | hl
  · match ts, hl with
    | [a, b], _ =>
      obtain ⟨x, hx⟩ := full a (by simp)
      obtain ⟨y, hy⟩ := full b (by simp)
      rw [List.filterMap_cons_some hx, List.filterMap_cons_some hy] at hn
      obtain ⟨q1, rfl, l1⟩ := nameAt_some hx
      obtain ⟨q2, rfl, l2⟩ := nameAt_some hy
      subst hn
      exact .inl ⟨x, y, q1, q2, rfl, rfl, eraseDups2 d2', l1, l2, f2'⟩
  · match ts, hl with
    | [a, b, c], _ =>
      obtain ⟨x, hx⟩ := full a (by simp)
      obtain ⟨y, hy⟩ := full b (by simp)
      obtain ⟨z, hz⟩ := full c (by simp)
      rw [List.filterMap_cons_some hx, List.filterMap_cons_some hy, List.filterMap_cons_some hz] at hn
      obtain ⟨q1, rfl, l1⟩ := nameAt_some hx
      obtain ⟨q2, rfl, l2⟩ := nameAt_some hy
      obtain ⟨q3, rfl, l3⟩ := nameAt_some hz
      subst hn
      obtain ⟨e1, e2, e3⟩ := eraseDups3 d2'
      exact .inr ⟨x, y, z, q1, q2, q3, rfl, rfl, e1, e2, e3, l1, l2, l3, f2'⟩
theorem ixOf_ne {x y : Str} {N : List Str} {i j : Nat} (h : x ≠ y) (h1 : N[i]? = some x) (h2 : N[j]? = some y) : i ≠ j := fun e => by
  subst e
  rw [h1] at h2
  exact h (Option.some.inj h2)
theorem slotW_loc {x : Str} (h : s.sc.names.lookup x = some .local) : slotW s x = ixOf x s.N := by
  unfold slotW
  rw [h]
theorem dG_name (n : Nat) {x : Str} {q : Pos} (h : s.sc.names.lookup x = some .local) : dG p cf (n + 1) s (.Name x q) = (match ixOf x s.N with
    | some i => gNm i
    | none => gBad) := by
  show (match slotW s x with
    | some i => gNm i
    | none => gBad) = _
  rw [slotW_loc h]
theorem dk_asg (C : Ctx p cf lv s X W) (n : Nat) (t e : Expr) (q : Pos) : PS X (.Assign [t] e q) (tSt X.K W (dAsg p cf n s t e)) := by
  have hE := dj_E C n
  have hG := dk_G C n
  unfold dAsg
  by_cases ci : isComp e = true
  · rw [if_pos ci]; exact PS.bad
  rw [if_neg ci]
  have ci' : isComp e = false := by simpa using ci
  cases t with
  | Name x q1 =>
    simp only
    split
    · rename_i i h
      obtain ⟨h1, h2⟩ := slotW_ok C h
      exact ds_set C.nd h1 h2 (.inl (C.fn x)) ci' (dk_M C n _ e)
    · exact PS.bad
  | Tuple ts k1 q1 =>
    simp only
    split
    · rename_i es k2 q2
      have hs := swap_sem (X := X) (ts := ts) (es := es) (p1 := q1) (p2 := q2) (k1 := k1) (k2 := k2) C.kind
      rw [C.sc] at hs
      split
      · rename_i o ho
        rw [ho] at hs
        split
        · rename_i c
          obtain ⟨c1, c2⟩ := Bool.and_eq_true_iff.mp c
          cases o with
          | none =>
            exact ds_asg ci' hs rfl (de_tup (dk_Ms C n ts es)) (hG _)
          | some names =>
            simp only at hs
            have hM := dk_Ms C n ts es
            obtain ⟨n2, rfl⟩ : ∃ n2, n = n2 + 2 := ⟨n - 2, by have := of_decide_eq_true c1; omega⟩
            have c3 : ∀ x ∈ names, ∃ i, ixOf x s.N = some i := fun x hx => Option.isSome_iff_exists.mp (List.all_eq_true.mp c2 x hx)
            rcases swap_some ho with ⟨x, y, r1, r2, rfl, rfl, ne, l1, l2, le⟩ | ⟨x, y, z, r1, r2, r3, rfl, rfl, ne1, ne2, ne3, l1, l2, l3, le⟩
            · match es, le with
              | [e1, e2], _ =>
                have eg : dG p cf (n2 + 2) s (.Tuple [.Name x r1, .Name y r2] k1 q1) = gTp (gCons (dG p cf (n2 + 1) s (.Name x r1)) (gCons (dG p cf (n2 + 1) s (.Name y r2)) gNil)) := rfl
                obtain ⟨i, hi⟩ := c3 x (by simp)
                obtain ⟨j, hj⟩ := c3 y (by simp)
                rw [eg, dG_name n2 l1, dG_name n2 l2, hi, hj]
                have gi : X.N[i]? = some x := by rw [C.N]; exact ixOf_get hi
                have gj : X.N[j]? = some y := by rw [C.N]; exact ixOf_get hj
                exact ds_par2 C.calm C.nd gi gj (ixOf_ne ne gi gj) (by rw [C.sc]; exact l1) (by rw [C.sc]; exact l2) hM hs
            · match es, le with
              | [e1, e2, e3], _ =>
                have eg : dG p cf (n2 + 2) s (.Tuple [.Name x r1, .Name y r2, .Name z r3] k1 q1) = gTp (gCons (dG p cf (n2 + 1) s (.Name x r1)) (gCons (dG p cf (n2 + 1) s (.Name y r2)) (gCons (dG p cf (n2 + 1) s (.Name z r3)) gNil))) := rfl
                obtain ⟨i, hi⟩ := c3 x (by simp)
                obtain ⟨j, hj⟩ := c3 y (by simp)
                obtain ⟨k, hk⟩ := c3 z (by simp)
                rw [eg, dG_name n2 l1, dG_name n2 l2, dG_name n2 l3, hi, hj, hk]
                have gi : X.N[i]? = some x := by rw [C.N]; exact ixOf_get hi
                have gj : X.N[j]? = some y := by rw [C.N]; exact ixOf_get hj
                have gk : X.N[k]? = some z := by rw [C.N]; exact ixOf_get hk
                exact ds_par3 C.calm C.nd gi gj gk (ixOf_ne ne1 gi gj) (ixOf_ne ne2 gi gk) (ixOf_ne ne3 gj gk) (by rw [C.sc]; exact l1) (by rw [C.sc]; exact l2) (by rw [C.sc]; exact l3) hM hs
        · exact PS.bad
      · exact PS.bad
    · rename_i hne
      exact ds_asg ci' (noSwap (by cases e <;> first | rfl | exact absurd rfl (hne _ _ _)) _) rfl (hE e) (hG _)
  | List ts q1 => exact PS.bad
  | Starred a q1 => exact PS.bad
  | _ => exact ds_asg ci' (noSwap rfl _) rfl (hE e) (hG _)
theorem opd_iAdd {K : Frag} : OpD K iAdd (fun x y H Q => (∃ i j, x = V.int i ∧ y = V.int j ∧ Q (.int (i + j)) H) ∨ ∃ i j, x = V.str i ∧ y = V.str j ∧ i.length + j.length ≤ sizeLine ∧ Q (.str (i ++ j)) H) := by
  intro g H S x y vx vy d Q sr rx ry e q
  unfold iAdd at e
  split at e
  · cases rx; cases ry
    cases e
    exact .inl ⟨_, _, rfl, rfl, q.here sr (.int _)⟩
  · split at e
    · rename_i c
      cases rx; cases ry
      cases e
      exact .inr ⟨_, _, rfl, rfl, c, q.here sr (.str _)⟩
    · cases e
  · cases e
theorem opd_iSub {K : Frag} : OpD K iSub (rI0 fun i j => .int (i - j)) := opd_i0 fun S x y d e => by
  unfold iSub at e
  split at e
  · cases e
    exact ⟨_, _, rfl, rfl, fun g => .int _⟩
  · cases e
theorem dk_expr (C : Ctx p cf lv s X W) (n : Nat) (e : Expr) (q : Pos) : PS X (.Expr e q) (tSt X.K W (dExpr p cf n s e)) := by
  have hE := dj_E C n
  unfold dExpr
  split
  · rename_i f args kws q2
    split
    · rename_i o m q1
      split
      · rename_i hm
        subst hm
        split
        · rename_i a
          split
          · exact PS.bad
          · rename_i c
            have c' : (isSup o || !noStar a || !(q1.endLine == q2.line)) = false := by simpa using c
            obtain ⟨c1, c3⟩ := Bool.or_eq_false_iff.mp c'
            obtain ⟨c1, c2⟩ := Bool.or_eq_false_iff.mp c1
            exact ds_app rfl c1 (by simpa using c2) (by simpa using c3) (hE o) (hE a)
        · exact PS.bad
      · exact ds_drop rfl (hE _)
    · exact ds_drop rfl (hE _)
  · split
    · exact PS.bad
    · rename_i c
      exact ds_drop (by simpa using c) (hE _)
theorem dk_for (C : Ctx p cf lv s X W) (n : Nat) {t e : Expr} {b : DS} {tb : List Stmt} {q : Pos} (hb : PSs X tb (tSt X.K W b)) : PS X (.For t e tb [] q) (tSt X.K W (dFor p cf n s t e b)) := by
  have hE := dj_E C n
  have hG := dk_G C n
  unfold dFor
  split
  · rename_i f args kws q2
    split
    · split
      · rename_i x q1
        split
        · rename_i hx
          subst hx
          split
          · rename_i c
            obtain ⟨c1, c2⟩ := Bool.and_eq_true_iff.mp c
            obtain ⟨g1, g2, g3⟩ := glob_of C.sc c1
            split
            · split
              · rename_i d hn
                exact ds_forR1 C.po C.calm g1 (C.ok.free _ c2) hn (hE _) (hG t) hb
              · exact PS.bad
            · split
              · rename_i d c hn
                obtain ⟨n1, n2⟩ := Bool.and_eq_true_iff.mp hn
                exact ds_forR2 C.po C.calm g1 (C.ok.free _ c2) n1 n2 (hE _) (hE _) (hG t) hb
              · exact PS.bad
            · exact PS.bad
          · exact PS.bad
        · split
          · rename_i hx
            subst hx
            split
            · rename_i c
              obtain ⟨c1, c3⟩ := Bool.and_eq_true_iff.mp c
              obtain ⟨c1, c2⟩ := Bool.and_eq_true_iff.mp c1
              obtain ⟨g1, g2, g3⟩ := glob_of C.sc c1
              split
              · split
                · rename_i d hn
                  cases t with
                  | Tuple ts k q3 => exact ds_forE rfl C.po C.calm g1 (C.ok.free _ c2) hn (hE _) (hG _) hb
                  | _ => cases c3
                · exact PS.bad
              · exact PS.bad
            · exact PS.bad
          · exact ds_for rfl C.po C.calm rfl (hE _) (hG t) hb
      · exact ds_for rfl C.po C.calm rfl (hE _) (hG t) hb
    · exact ds_for rfl C.po C.calm rfl (hE _) (hG t) hb
  · split
    · exact PS.bad
    · rename_i c
      exact ds_for rfl C.po C.calm (by simpa using c) (hE _) (hG t) hb
theorem dk_blk {f : Stmt → DS} (h : ∀ st, PS X st (tSt X.K W (f st))) : ∀ sts : List Stmt, PSs X sts (tSt X.K W (dBlk f sts))
  | [] => ds_nil
  | st :: r => ds_cons (h st) (dk_blk h r)
theorem dk_S (C : Ctx p cf lv s X W) : ∀ (n : Nat) (st : Stmt), PS X st (tSt X.K W (dS p cf L n s st))
  | 0, st => PS.bad
  | n + 1, st => by
    have hE := dj_E C n
    have hT := dj_T C n
    have hB := dk_blk (dk_S C n)
    cases st with
    | Pass q => exact ds_pass
    | Break q => exact ds_break
    | Continue q => exact ds_cont
    | Return e q =>
      cases e with
      | none => exact ds_retN
      | some e => exact ds_ret (dk_M C n _ e)
    | If c a b q => exact ds_if (hT c) (hB a) (hB b)
    | Expr e q => exact dk_expr C n e q
    | Assign ts e q =>
      match ts with
      | [t] => exact dk_asg C n t e q
      | [] => exact PS.bad
      | _ :: _ :: _ => exact PS.bad
    | AugAssign t op e q =>
      cases t with
      | Name x q1 =>
        show PS X (.AugAssign (.Name x q1) op e q) (tSt X.K W (match slotW s x with
          | some i => (match op with
            | .Add => sAug i iAdd (dE p cf n s e)
            | .Sub => sAug i iSub (dE p cf n s e)
            | _ => sBad)
          | none => sBad))
        split
        · rename_i i h
          obtain ⟨h1, h2⟩ := slotW_ok C h
          split
          · exact ds_aug (OpR.or iop_add iop_add_str) opd_iAdd C.nd h1 h2 (.inl (C.fn x)) (hE e)
          · exact ds_aug iop_sub opd_iSub C.nd h1 h2 (.inl (C.fn x)) (hE e)
          · exact PS.bad
        · exact PS.bad
      | _ => exact PS.bad
    | For t e b o q =>
      cases o with
      | nil => exact dk_for C n (hB b)
      | cons _ _ => exact PS.bad
    | While c b o q =>
      cases o with
      | nil => exact ds_while C.po (hT c) (hB b)
      | cons _ _ => exact PS.bad
    | _ => exact PS.bad
end
end Pv

set_option Elab.async false
set_option linter.all false
set_option maxRecDepth 100000
set_option maxHeartbeats 1000000
/-! Pv, part L: how the parameters are bound, whatever their number. -/
namespace Pv
open PySem L2
open PyProof.Rows hiding St
open PySem.W (Frag)
abbrev Sl := List (Str × Value)
def stepB (x : Str × Value) (acc : Sl) : Sem (ForInStep Sl) := if (acc.lookup x.1).isNone = true then pure (ForInStep.yield (acc ++ [(x.1, x.2)])) else pure (ForInStep.yield acc)
theorem loop1 : ∀ (L : Sl) (acc : Sl), (∀ x ∈ L, (acc.lookup x.1).isNone = false) → forIn L acc stepB = pure acc
  | [], acc, _ => rfl
  | x :: L, acc, h => by
    rw [List.forIn_cons]
    unfold stepB
    rw [if_neg (by rw [h x (by simp)]; simp), pure_bind]
    exact loop1 L acc fun y hy => h y (List.mem_cons_of_mem _ hy)
theorem lookup_snoc {acc : Sl} {x y : Str} {v : Value} (h : acc.lookup x = none) (ne : x ≠ y) : (acc ++ [(y, v)]).lookup x = none := by
  rw [List.lookup_append, h]
  show (match x == y with | true => some v | false => none) = none
  rw [show (x == y) = false by simpa using ne]
theorem loop2 : ∀ (L : Sl) (acc : Sl), (∀ x ∈ L, acc.lookup x.1 = none) → (L.map (·.1)).Nodup → forIn L acc stepB = pure (acc ++ L)
  | [], acc, _, _ => by rw [List.append_nil]; rfl
  | x :: L, acc, h, nd => by
    obtain ⟨n1, n2⟩ := List.nodup_cons.mp (show (x.1 :: L.map (·.1)).Nodup from nd)
    rw [List.forIn_cons]
    have e : stepB x acc = pure (ForInStep.yield (acc ++ [(x.1, x.2)])) := by
      unfold stepB
      rw [if_pos (by rw [h x (by simp)]; rfl)]
    rw [e, pure_bind]
    have z := loop2 L (acc ++ [(x.1, x.2)]) (fun y hy => lookup_snoc (h y (List.mem_cons_of_mem _ hy)) fun q => n1 (q ▸ List.mem_map_of_mem hy)) n2
    show forIn L (acc ++ [(x.1, x.2)]) stepB = _
    rw [z, List.append_assoc]
    rfl
theorem forIn_app : ∀ (L1 L2 acc mid : Sl), forIn L1 acc stepB = pure mid → (∀ x ∈ L1, (acc.lookup x.1).isNone = false) → forIn (L1 ++ L2) acc stepB = forIn L2 acc stepB
  | [], L2, acc, mid, _, _ => rfl
  | x :: L1, L2, acc, mid, h, hx => by
    show forIn (x :: (L1 ++ L2)) acc stepB = _
    rw [List.forIn_cons]
    have e : stepB x acc = pure (ForInStep.yield acc) := by
      unfold stepB
      rw [if_neg (by rw [hx x (by simp)]; simp)]
    rw [e, pure_bind]
    exact forIn_app L1 L2 acc acc (loop1 L1 acc fun y hy => hx y (List.mem_cons_of_mem _ hy)) fun y hy => hx y (List.mem_cons_of_mem _ hy)
theorem zip_look : ∀ {ps : List Str} {us : List Value} {x : Str}, ps.Nodup → x ∉ ps.take us.length → (ps.zip us).lookup x = none
  | [], us, x, _, _ => by simp
  | p :: ps, [], x, _, _ => rfl
  | p :: ps, u :: us, x, nd, h => by
    obtain ⟨n1, n2⟩ := List.nodup_cons.mp nd
    have h' : x ∉ p :: ps.take us.length := h
    show (match x == p with | true => some u | false => (ps.zip us).lookup x) = none
    rw [show (x == p) = false by simp only [beq_eq_false_iff_ne, ne_eq]; exact fun e => h' (by rw [e]; simp)]
    exact zip_look n2 fun z => h' (List.mem_cons_of_mem _ z)
theorem zip_lookS : ∀ {ps : List Str} {us : List Value} {x : Str}, x ∈ ps.take us.length → ((ps.zip us).lookup x).isNone = false
  | [], us, x, h => by simp at h
  | p :: ps, [], x, h => by simp at h
  | p :: ps, u :: us, x, h => by
    have h' : x ∈ p :: ps.take us.length := h
    show (match x == p with | true => some u | false => (ps.zip us).lookup x).isNone = false
    cases e : x == p with
    | true => rfl
    | false =>
      rcases List.mem_cons.mp h' with q | q
      · rw [q] at e; simp at e
      · exact zip_lookS q
theorem fm_zip : ∀ {ps : List Str} {us : List Value} (pre : Sl), ps.Nodup → us.length = ps.length → (∀ x ∈ ps, pre.lookup x = none) → ps.filterMap (fun n => ((pre ++ ps.zip us).lookup n).map fun v => (n, v)) = ps.zip us
  | [], us, pre, _, _, _ => by simp
  | p :: ps, [], pre, _, h, _ => by simp at h
  | p :: ps, u :: us, pre, nd, hl, hp => by
    obtain ⟨n1, n2⟩ := List.nodup_cons.mp nd
    have e1 : (pre ++ (p :: ps).zip (u :: us)).lookup p = some u := by
      rw [List.lookup_append, hp p (by simp)]
      show (match p == p with | true => some u | false => (ps.zip us).lookup p) = some u
      rw [show (p == p) = true by simp]
    rw [List.filterMap_cons_some (b := (p, u)) (by rw [e1]; rfl)]
    have e2 : pre ++ (p :: ps).zip (u :: us) = (pre ++ [(p, u)]) ++ ps.zip us := by rw [List.append_assoc]; rfl
    rw [e2, fm_zip (pre ++ [(p, u)]) n2 (by simpa using hl) fun x hx => lookup_snoc (hp x (List.mem_cons_of_mem _ hx)) fun q => n1 (q ▸ hx)]
    rfl
theorem tk_zip {α β : Type} : ∀ (as : List α) (bs : List β) (i : Nat), (as.zip bs).take i = (as.take i).zip (bs.take i)
  | _, _, 0 => by simp
  | [], _, i + 1 => by simp
  | a :: as, [], i + 1 => by simp
  | a :: as, b :: bs, i + 1 => by
    show (a, b) :: (as.zip bs).take i = (a, b) :: (as.take i).zip (bs.take i)
    rw [tk_zip as bs i]
theorem dp_zip {α β : Type} : ∀ (as : List α) (bs : List β) (i : Nat), (as.zip bs).drop i = (as.drop i).zip (bs.drop i)
  | _, _, 0 => by simp
  | [], _, i + 1 => by simp
  | a :: as, [], i + 1 => by simp
  | a :: as, b :: bs, i + 1 => dp_zip as bs i
theorem bindGen {name qual : Str} {params : Arguments} {body : List Stmt} {scope : Scope} {dV kV doc pm : Value} {an : Option Addr} {cdv ct : Value} {ps : List Str} (h1 : params.posonlyargs = []) (h2 : params.vararg = none) (h3 : params.kwonlyargs = []) (h4 : params.kwarg = none) (hps : params.args.map (·.arg) = ps) (nd : ps.Nodup) (us its : List Value)
   (hl : us.length ≤ ps.length) (hd : its.length ≤ ps.length) (hn : ps.length ≤ us.length + its.length) :
   ∃ k : Option (Array Value) → Sem Sl, bindArgs (PySem.W.fnOf name qual params body scope dV kV doc pm an cdv ct) ⟨us, []⟩ = (seqItems? dV >>= k) ∧ ∀ o, (o.getD #[]).toList = its → k o = pure (ps.zip (us ++ its.drop (us.length + its.length - ps.length))) := by
  refine ⟨_, by
    unfold bindArgs
    simp only [PySem.W.fnOf, h1, h2, h3, h4, hps, List.map_nil, List.nil_append, List.forIn_nil, pure_bind]
    rfl, fun o ho => ?_⟩
  have e0 : its.length - ps.length = 0 := by omega
  have gt : ¬ (us.length > ps.length) := by omega
  have miss : (ps.take (ps.length - its.length)).filter (fun n => ((ps.zip us).lookup n).isNone) = [] := by
    rw [List.filter_eq_nil_iff]
    intro x hx
    have : x ∈ ps.take us.length := by
      have hle : ps.length - its.length ≤ us.length := by omega
      have := List.take_subset_take_left ps hle hx
      exact this
    rw [zip_lookS this]
    simp
  have lp : forIn ((ps.drop (ps.length - its.length)).zip its) (ps.zip us) stepB = pure (ps.zip (us ++ its.drop (us.length + its.length - ps.length))) := by
    have hk : us.length + its.length - ps.length + (ps.length - its.length) = us.length := by omega
    have sp1 : (ps.drop (ps.length - its.length)).zip its = ((ps.drop (ps.length - its.length)).take (us.length + its.length - ps.length)).zip (its.take (us.length + its.length - ps.length)) ++ ((ps.drop (ps.length - its.length)).drop (us.length + its.length - ps.length)).zip (its.drop (us.length + its.length - ps.length)) := by
      rw [← tk_zip, ← dp_zip, List.take_append_drop]
    have sp2 : (ps.drop (ps.length - its.length)).drop (us.length + its.length - ps.length) = ps.drop us.length := by
      rw [List.drop_drop, Nat.add_comm, hk]
    have ft : ∀ x ∈ ((ps.drop (ps.length - its.length)).take (us.length + its.length - ps.length)).zip (its.take (us.length + its.length - ps.length)), ((ps.zip us).lookup x.1).isNone = false := fun x hx => by
      refine zip_lookS ?_
      have a1 : x.1 ∈ (ps.drop (ps.length - its.length)).take (us.length + its.length - ps.length) := (List.of_mem_zip hx).1
      have : (ps.drop (ps.length - its.length)).take (us.length + its.length - ps.length) = (ps.take us.length).drop (ps.length - its.length) := by
        rw [List.drop_take]
        congr 1
        omega
      rw [this] at a1
      exact List.mem_of_mem_drop a1
    have nw : ∀ x ∈ (ps.drop us.length).zip (its.drop (us.length + its.length - ps.length)), (ps.zip us).lookup x.1 = none := fun x hx => zip_look nd fun z => by
      have a1 : x.1 ∈ ps.drop us.length := (List.of_mem_zip hx).1
      have nd2 : (ps.take us.length ++ ps.drop us.length).Nodup := by rw [List.take_append_drop]; exact nd
      exact (List.nodup_append.mp nd2).2.2 _ z _ a1 rfl
    have nn : (((ps.drop us.length).zip (its.drop (us.length + its.length - ps.length))).map (·.1)).Nodup := by
      rw [show (fun x : Str × Value => x.1) = Prod.fst from rfl, List.map_fst_zip (by rw [List.length_drop, List.length_drop]; omega)]
      exact nd.sublist (List.drop_sublist _ _)
    rw [sp1, forIn_app _ _ _ _ (loop1 _ _ ft) ft, sp2, loop2 _ _ nw nn]
    have : ps.zip (us ++ its.drop (us.length + its.length - ps.length)) = (ps.take us.length ++ ps.drop us.length).zip (us ++ its.drop (us.length + its.length - ps.length)) := by rw [List.take_append_drop]
    rw [this, List.zip_append (by rw [List.length_take]; omega)]
    have q : (ps.take us.length).zip us = ps.zip us := by
      have := tk_zip ps us us.length
      rw [List.take_length] at this
      rw [← this, List.take_of_length_le (by rw [List.length_zip]; omega)]
    rw [q]
  have fz : ps.filterMap (fun n => ((ps.zip (us ++ its.drop (us.length + its.length - ps.length))).lookup n).map fun v => (n, v)) = ps.zip (us ++ its.drop (us.length + its.length - ps.length)) := by
    have := fm_zip (ps := ps) (us := us ++ its.drop (us.length + its.length - ps.length)) [] nd (by rw [List.length_append, List.length_drop]; omega) fun _ _ => rfl
    rw [List.nil_append] at this
    exact this
  have gd : (decide (us.length > ps.length) && (none : Option Arg).isNone) = false := by rw [decide_eq_false gt]; rfl
  simp only [ho, e0, List.drop_zero, gd, miss, List.isEmpty_nil, Bool.not_true, Bool.false_eq_true, if_false]
  show (forIn ((ps.drop (ps.length - its.length)).zip its) (ps.zip us) stepB >>= _) = _
  rw [lp, pure_bind]
  simp only [List.append_nil]
  rw [fz]
end Pv

set_option Elab.async false
set_option linter.all false
set_option maxRecDepth 100000
set_option maxHeartbeats 1000000
/-! Pv, part M: the program's functions. -/
namespace Pv
open PySem L2
open PyProof.Rows hiding St
open PySem.W (Frag)
structure Df where
  d : He.DefD
  N : List Str
  mv : List Str
def Df.ps (f : Df) : List Str := f.d.params.args.map (·.arg)
def Df.s (f : Df) : Sc := ⟨f.N, f.d.scope, f.mv⟩
def dvD : He.Dv → D
  | .bl b => .bl b
  | .int i => .int i
  | .str x => .str x
  | _ => .non
def dvOk : He.Dv → Bool
  | .non => true
  | .bl _ => true
  | .int _ => true
  | .str _ => true
  | _ => false
def Df.ds (f : Df) : List D := f.d.dfl.map dvD
def isFnK : ScopeKind → Bool
  | .function => true
  | _ => false
def isLoc : Option NameKind → Bool
  | some .local => true
  | some .cell => true
  | _ => false
def isFree : NameKind → Bool
  | .free => true
  | _ => false
def nodupB : List Str → Bool
  | [] => true
  | x :: r => !r.contains x && nodupB r
def Df.good (f : Df) : Bool := f.d.params.posonlyargs.isEmpty && f.d.params.vararg.isNone && f.d.params.kwonlyargs.isEmpty && f.d.params.kwarg.isNone && decide (f.d.dfl.length ≤ f.ps.length) && f.d.dfl.all dvOk &&
  (isFnK f.d.scope.kind && !f.d.scope.isCoroutine && !f.d.scope.isGenerator && nodupB f.N && decide (f.N.take f.ps.length = f.ps) && (f.ps.all fun x => isLoc (f.d.scope.names.lookup x)) && f.d.scope.names.all fun y => !isFree y.2)
/-- what a body's end gives the caller -/
def outOk (n : Nat) : D → Bool
  | .mu i => decide (i < n)
  | d => noMu d
def retD (n : Nat) (S : Sto) (d : D) : D × Sto := match d with
  | .mu i => if i < n then (.mu i, S) else frz1 S (.mu i)
  | d => (d, S)
def fin (keep : Bool) (n : Nat) (r : Res Fl) : Res D := match r with
  | .ok (.nx _) S => .ok .non (S.take n)
  | .ok (.rt d) S => if keep = true then .ok d S else if outOk n (retD n S d).1 = true then .ok (retD n S d).1 ((retD n S d).2.take n) else .bad
  | .ok (.xc c fs _) S => if noMuf fs = true then .exc c fs (S.take n) else .bad
  | _ => .bad
def startD (N : List Str) (xs : List D) : Ev := xs.map some ++ List.replicate (N.length - xs.length) none
def callF (p : Pol) (tab : Fk → Option Df) (L m : Nat) : Nat → Cf
  | 0 => fun _ _ _ => .bad
  | n + 1 => fun k xs S => match tab k with
    | some f => fin (p.keep k) S.length (dBlk (dS p (callF p tab L m n) L m f.s) f.d.body (startD f.N xs) S)
    | none => .bad
/-- what is known of the functions -/
structure Tab (K : Frag) (p : Pol) (tab : Fk → Option Df) : Prop where
  df : ∀ k f, tab k = some f → f.good = true ∧ ∃ fd, FunD K f.d.name f.d.qual f.d.params f.d.body f.d.scope (f.d.dvs K) (f.d.kws K) (He.fAd K k) fd
  fn : ∀ x np ds, p.gl x = some (.fn np ds) → ∃ f, tab (x, none) = some f ∧ f.ps.length = np ∧ f.ds = ds
  cls : ∀ x np ds, p.gl x = some (.cls np ds) → ∃ f, tab (x, some "__init__") = some f ∧ f.ps.length = np + 1 ∧ f.ds = ds
  mt : ∀ c m np ds, p.mt c m = some (np, ds) → ∃ f, tab (c, some m) = some f ∧ f.ps.length = np + 1 ∧ f.ds = ds
theorem nodupB_ok : ∀ {l : List Str}, nodupB l = true → l.Nodup
  | [], _ => List.nodup_nil
  | x :: r, h => by
    obtain ⟨h1, h2⟩ := Bool.and_eq_true_iff.mp (show (!r.contains x && nodupB r) = true from h)
    refine List.nodup_cons.mpr ⟨fun z => ?_, nodupB_ok h2⟩
    have : r.contains x = true := List.contains_iff_mem.mpr z
    rw [this] at h1
    cases h1
structure Good (f : Df) : Prop where
  po : f.d.params.posonlyargs = []
  va : f.d.params.vararg = none
  ko : f.d.params.kwonlyargs = []
  kw : f.d.params.kwarg = none
  dl : f.d.dfl.length ≤ f.ps.length
  dv : ∀ v ∈ f.d.dfl, dvOk v = true
  sc : FnScope f.N f.ps f.d.scope
  pn : f.ps.Nodup
theorem Df.good_ok {f : Df} (h : f.good = true) : Good f := by
  unfold Df.good at h
  simp only [Bool.and_eq_true, List.isEmpty_iff, Option.isNone_iff_eq_none, decide_eq_true_eq, Bool.not_eq_true'] at h
  obtain ⟨⟨⟨⟨⟨⟨h1, h2⟩, h3⟩, h4⟩, h5⟩, h6⟩, ⟨⟨⟨⟨⟨⟨k1, k2⟩, k3⟩, k4⟩, k5⟩, k6⟩, k7⟩⟩ := h
  have nd := nodupB_ok k4
  refine ⟨h1, h2, h3, h4, h5, fun v hv => List.all_eq_true.mp h6 v hv, ⟨?_, k2, k3, nd, k5, fun x hx => ?_, fun y hy e => ?_⟩, by rw [← k5]; exact nd.sublist (List.take_sublist _ _)⟩
  · cases e : f.d.scope.kind <;> first | rfl | (rw [e] at k1; cases k1)
  · have z := List.all_eq_true.mp k6 x hx
    cases e : f.d.scope.names.lookup x with
    | none => rw [e] at z; cases z
    | some k =>
      rw [e] at z
      cases k <;> first | exact .inl rfl | exact .inr rfl | cases z
  · have z := List.all_eq_true.mp k7 y hy
    rw [e] at z
    cases z
section
variable {P : Program} {w : World} {K : Frag} {mg : Str → Option Value} {base : Heap} {p : Pol} {tab : Fk → Option Df} {L m : Nat}
theorem rp_dv {v : He.Dv} (h : dvOk v = true) (g : G) : Rp K g (dvD v) (v.v K) := by
  cases v with
  | non => exact .non
  | bl b => exact .bl b
  | int i => exact .int i
  | str x => exact .str x
  | _ => cases h
theorem rps_dv (g : G) : ∀ {vs : List He.Dv}, (∀ v ∈ vs, dvOk v = true) → Rps K g (vs.map dvD) (vs.map (He.Dv.v K))
  | [], _ => .nil
  | v :: vs, h => .cons (rp_dv (h v (by simp)) g) (rps_dv g fun u hu => h u (List.mem_cons_of_mem _ hu))
theorem seq_none (k : Option (Array Value) → Sem Sl) : (seqItems? Value.none >>= k) = k none := rfl
theorem fn_binds {f : Df} {a : Addr} {fd : FuncData} (G1 : Good f) (F : FunD K f.d.name f.d.qual f.d.params f.d.body f.d.scope (f.d.dvs K) (f.d.kws K) a fd) :
    ∀ m, m ≤ f.ps.length → f.ps.length ≤ m + f.ds.length → ∃ dvs us, Vals dvs us ∧ Binds K fd f.ps us ∧ ∀ g, Rps K g (f.ds.drop (f.ds.length - (f.ps.length - m))) dvs := by
  intro m h1 h2
  obtain ⟨oc, od, dV, kV, doc, pm, an, cdv, ct, osl, rfl, lk, hcd, hD, hK⟩ := F.ex
  have hl : f.ds.length = f.d.dfl.length := by unfold Df.ds; rw [List.length_map]
  have hv : (f.d.dvs K).length = f.d.dfl.length := by unfold He.DefD.dvs; rw [List.length_map]
  have rd : ∀ g, Rps K g f.ds (f.d.dvs K) := fun g => rps_dv g G1.dv
  rcases hD with ⟨e, rfl⟩ | ⟨_, T, o, its, n, rfl, lT, oT, rT⟩
  · have z : f.d.dfl.length = 0 := by rw [← hv, e]; rfl
    have em : m = f.ps.length := by omega
    refine ⟨[], [], .nil, fun s us hin hlen => ?_, fun g => ?_⟩
    · rw [List.append_nil] at hlen ⊢
      obtain ⟨k, e1, e2⟩ := bindGen (name := f.d.name) (qual := f.d.qual) (body := f.d.body) (scope := f.d.scope) (dV := Value.none) (kV := kV) (doc := doc) (pm := pm) (an := an) (cdv := cdv) (ct := ct) G1.po G1.va G1.ko G1.kw (ps := f.ps) rfl G1.pn us [] (by omega) (Nat.zero_le _) (by omega)
      rw [seq_none, e2 none rfl] at e1
      rw [List.drop_nil, List.append_nil] at e1
      exact .of_eq e1
    · have q : f.ds = [] := List.length_eq_zero_iff.mp (by omega)
      rw [q, List.drop_nil]
      exact .nil
  · have l1 : its.length = f.d.dfl.length := by rw [← rT.length, hv]
    refine ⟨(f.d.dvs K).drop (f.ds.length - (f.ps.length - m)), its.drop (f.ds.length - (f.ps.length - m)), rT.drop _, fun s us hin hlen => ?_, fun g => (rd g).drop _⟩
    have hm : us.length = m := by
      rw [List.length_append, List.length_drop] at hlen
      omega
    obtain ⟨k, e1, e2⟩ := bindGen (name := f.d.name) (qual := f.d.qual) (body := f.d.body) (scope := f.d.scope) (dV := Value.ref T) (kV := kV) (doc := doc) (pm := pm) (an := an) (cdv := cdv) (ct := ct) G1.po G1.va G1.ko G1.kw (ps := f.ps) rfl G1.pn us its (by omega) (by have := G1.dl; omega) (by omega)
    refine BindsTo.of_looks fun M => ?_
    rw [e1]
    have e3 := e2 (some its.toArray) (by simp)
    rw [show us.length + its.length - f.ps.length = f.ds.length - (f.ps.length - m) by omega] at e3
    exact looks_items hin lT oT (.of_pure e3)
theorem Slots.start {g : G} {N : List Str} {xs : List D} {vs : List V} (r : Rps K g xs vs) : Slots K g (startD N xs) (L2.start N vs) := by
  have hl := r.length
  refine ⟨?_, fun i d e => ?_⟩
  · unfold startD L2.start
    simp only [List.length_append, List.length_map, List.length_replicate, hl]
  · unfold startD at e
    by_cases c : i < xs.length
    · rw [List.getElem?_append_left (by simpa using c), List.getElem?_map] at e
      cases hx : xs[i]? with
      | none => rw [hx] at e; cases e
      | some y =>
        rw [hx] at e
        cases e
        obtain ⟨v, h1, h2⟩ := r.get hx
        refine ⟨v, ?_, h2⟩
        unfold L2.start
        rw [List.getElem?_append_left (by rw [List.length_map, hl]; exact c), List.getElem?_map, h1]
        rfl
    · rw [List.getElem?_append_right (by simpa using c), List.getElem?_replicate] at e
      split at e <;> cases e
theorem cut_rp {g : G} {n : Nat} {d : D} {v : V} (h : outOk n d = true) (r : Rp K g d v) : Rp K (g.cut n) d v := by
  cases d with
  | mu i =>
    cases r with
    | mu q =>
      refine .mu ?_
      show (g.a.take n)[i]? = _
      rw [List.getElem?_take_of_lt (of_decide_eq_true h)]
      exact q
  | _ => exact Rp.noMu (g := g) (g' := g.cut n) (fun _ _ e => e) r h
theorem ret_ok {g : G} {H : Hp} {S : Sto} (h : SR K g H S) {n : Nat} {d : D} {v : V} (r : Rp K g d v) : ∃ g', G.Le g g' ∧ SR K g' H (retD n S d).2 ∧ Rp K g' (retD n S d).1 v := by
  unfold retD
  split
  · split
    · exact ⟨g, G.Le.refl _, h, r⟩
    · exact frz1_ok h r
  · exact ⟨g, G.Le.refl _, h, r⟩
theorem fin_ok {g : G} {H : Hp} {S : Sto} {keep : Bool} {r : Res Fl} {Q : VK} {E : XK} (sr : SR K g H S)
    (o : Out K (fun cls dx _ H' => E cls dx H') [] g (fin keep S.length r) fun d _ g' H' => ∀ v, Rp K g' d v → Q v H') :
    OutS K (fun cls dx _ H' => E cls dx H') g r { nx := fun _ H' => Q .non H', rt := Q } := by
  have ln : g.a.length ≤ S.length := by rw [sr.len]; exact Nat.le_refl _
  cases r with
  | bad => exact o.elim
  | exc c fs S1 => exact o.elim
  | ok f S1 =>
    cases f with
    | bk env => exact o.elim
    | ct env => exact o.elim
    | nx env => exact fun g' H' σ' le s' sl => o (g'.cut S.length) H' (cut_le ln le) (s'.cut S.length) _ .non
    | rt d =>
      intro g' H' v le s' rv
      unfold fin at o
      by_cases c : keep = true
      · simp only [if_pos c] at o
        exact o g' H' le s' v rv
      · simp only [if_neg c] at o
        by_cases c2 : outOk S.length (retD S.length S1 d).1 = true
        · simp only [if_pos c2] at o
          obtain ⟨g2, l2, s2, r2⟩ := ret_ok s' (n := S.length) rv
          exact o (g2.cut S.length) H' (cut_le ln (le.trans l2)) (s2.cut S.length) v (cut_rp c2 r2)
        · simp only [if_neg c2] at o
          exact o.elim
    | xc cn fs env =>
      intro g' H' σ' cls dx le s' sl rx
      unfold fin at o
      by_cases c : noMuf fs = true
      · simp only [if_pos c] at o
        refine o (g'.cut S.length) H' cls dx (cut_le ln le) (s'.cut S.length) ⟨rx.1, ?_⟩
        rcases rx.2 with q | ⟨d, vs, q1, q2, q3⟩
        · exact .inl q
        · exact .inr ⟨d, vs, q1, q2, Rpf.noMu (g := g') (g' := g'.cut S.length) (fun _ _ e => e) q3 c⟩
      · simp only [if_neg c] at o
        exact o.elim
theorem fn_ok1 (O : Ok K mg p) (T : Tab K p tab) : ∀ (n : Nat) (k : Fk) (f : Df), tab k = some f → ∀ fd, FunD K f.d.name f.d.qual f.d.params f.d.body f.d.scope (f.d.dvs K) (f.d.kws K) (He.fAd K k) fd → FnOk P w K mg base (L2.CX P w) (2 * n) (He.fAd K k) fd f.ps (spD K f.ps.length (callF p tab L m n k))
  | 0, k, f, e, fd, F => ⟨fun vs H Q E h => h.1, fun A outer s H args us vs Q E _ _ _ _ h => let ⟨_, _, _, _, _, _, z⟩ := h; z.elim⟩
  | n + 1, k, f, e, fd, F => by
    have G1 := Df.good_ok (T.df k f e).1
    have ih : ∀ (k : Fk) (f : Df), tab k = some f → FnF P w K mg base (2 * n) (He.fAd K k) f.ps.length f.ds (callF p tab L m n k) := fun k f e => by
      obtain ⟨g1, fd, F⟩ := T.df k f e
      exact ⟨fd, f.ps, rfl, fn_ok1 O T n k f e fd F, fn_binds (Df.good_ok g1) F⟩
    refine F.ok (k := 2 * n + 1) G1.sc (fun vs H Q E h => h.1) fun cdv A outer s H vs Q E hr h => ?_
    obtain ⟨_, g, S, ds, sr, rds, o⟩ := h
    have e0 : callF p tab L m (n + 1) k ds S = fin (p.keep k) S.length (dBlk (dS p (callF p tab L m n) L m f.s) f.d.body (startD f.N ds) S) := by
      show (match tab k with
        | some f => fin (p.keep k) S.length (dBlk (dS p (callF p tab L m n) L m f.s) f.d.body (startD f.N ds) S)
        | none => .bad) = _
      rw [e]
    rw [e0] at o
    refine ⟨tSt K (fun cls dx _ H' => E cls dx H') (dBlk (dS p (callF p tab L m n) L m f.s) f.d.body), ?_, g, startD f.N ds, S, sr, Slots.start rds, fin_ok sr o⟩
    have C : Ctx p (callF p tab L m n) (2 * n) f.s (cxOf (L2.CX P w) P w K mg base f.N f.d.qual f.d.scope (He.fAd K k) cdv A outer s H E) (fun cls dx _ H' => E cls dx H') :=
      { ok := O
        N := rfl
        nd := G1.sc.nd
        sc := rfl
        kind := G1.sc.kind
        calm := rfl
        room := hr
        tk := takes_of rfl rfl rfl rfl
        po := passes_of rfl
        fn := fun _ => rfl
        ff := fun x np dd e => by
          obtain ⟨f', h1, h2, h3⟩ := T.fn x np dd e
          have z := ih _ f' h1
          rw [h2, h3] at z
          exact z
        fc := fun x np dd e => by
          obtain ⟨f', h1, h2, h3⟩ := T.cls x np dd e
          have z := ih _ f' h1
          rw [h2, h3] at z
          exact z
        fm := fun c mm np dd e => by
          obtain ⟨f', h1, h2, h3⟩ := T.mt c mm np dd e
          have z := ih _ f' h1
          rw [h2, h3] at z
          exact z }
    exact dk_blk (dk_S C m) f.d.body
end
end Pv

set_option Elab.async false
set_option linter.all false
set_option maxRecDepth 100000
set_option maxHeartbeats 1000000
/-! Pv, part N: the program's names as data; what the head's one run has to tell. -/
namespace Pv
open PySem L2
open PyProof.Rows hiding St
open PySem.W (Frag)
inductive Cn where
  | int (i : Int) | str (x : Str) | tup (vs : List He.Dv)
def Cn.d : Cn → D
  | .int i => .int i
  | .str x => .str x
  | .tup vs => .tup (vs.map dvD)
structure PD where
  tab : List (Fk × Df)
  fns : List Str
  clss : List Str
  mts : List (Str × Str)
  cons : List (Str × Cn)
  frees : List Str
  flds : List (Str × Str)
  owns : List Str
  ios : List Fk
  keeps : List Fk
def PD.at (q : PD) (k : Fk) : Option Df := q.tab.lookup k
def PD.gl (q : PD) (x : Str) : Option GV := if q.fns.contains x = true then (q.at (x, none)).map fun f => .fn f.ps.length f.ds
  else if q.clss.contains x = true then (q.at (x, some "__init__")).map fun f => .cls (f.ps.length - 1) f.ds
  else (q.cons.lookup x).map fun c => .con c.d
def PD.mt (q : PD) (c m : Str) : Option (Nat × List D) := if q.mts.contains (c, m) = true then (q.at (c, some m)).map fun f => (f.ps.length - 1, f.ds) else none
def PD.pol (q : PD) : Pol where
  gl := q.gl
  mt := q.mt
  own := fun c => q.owns.contains c
  io := fun k => q.ios.contains k
  keep := fun k => q.keeps.contains k
  free := fun x => q.frees.contains x
  fld := fun c f => q.flds.contains (c, f)
/-- what the text itself tells -/
def PD.ok (q : PD) : Bool := (q.tab.all fun kf => kf.2.good && decide (kf.2.d.at_ = kf.1)) && (q.clss.all fun c => match q.at (c, some "__init__") with
    | some f => decide (1 ≤ f.ps.length)
    | none => true) && (q.mts.all fun c => match q.at (c.1, some c.2) with
    | some f => decide (1 ≤ f.ps.length)
    | none => true)
def clsB (K : Frag) (c : Str) : Bool := (He.Fa.cls c).ok K && (He.eqO (PySem.W.findIn K (.ref (He.ga K c)) "__class__") (some (some (.builtin "object.__class__"))) && (He.eqO (PySem.W.specialIn K (.builtin "object.__class__") "__get__") (some (some (.builtin "getset_descriptor.__get__"))) &&
  (decide (PySem.W.takesIn K (.builtin "object.__class__") = some true) && decide (PySem.W.mroIn K (He.ga K c) (.type "object") = some true))))
def conB (K : Frag) (x : Str) : Cn → Bool
  | .int i => (He.Fa.int x i).ok K
  | .str z => (He.Fa.str x z).ok K
  | .tup vs => (He.Fa.glo x).ok K && (He.tupB K x vs && vs.all dvOk)
def kitB1 (K : Frag) (u v : Value) (b : Bool) : Bool := decide (PySem.W.kitOne K u v = some b)
/-- what the head's run tells -/
def PD.chk (q : PD) (K : Frag) : Bool := (q.fns.all fun x => (He.Fa.glo x).ok K && (He.Fa.keep x).ok K) && ((q.clss.all fun x => (He.Fa.glo x).ok K && ((He.Fa.mkr x).ok K && clsB K x)) && ((q.cons.all fun xc => conB K xc.1 xc.2) && ((q.mts.all fun cm => (He.Fa.meth cm.1 cm.2).ok K) &&
  ((q.frees.all fun x => (He.Fa.free x).ok K) && ((q.flds.all fun cf => (He.Fa.noat cf.1 cf.2).ok K) && ((q.owns.all fun c => (He.Fa.glo c).ok K) && ((tyAll.all fun t => q.owns.all fun c => kitB1 K (.type t) (.ref (He.ga K c)) false) &&
  ((q.owns.all fun c => q.owns.all fun c' => kitB1 K (.ref (He.ga K c)) (.ref (He.ga K c')) (decide (c = c'))) && (q.owns.all fun c => tyNames.all fun x => kitB1 K (.ref (He.ga K c)) (.type (tyS x)) false)))))))))
def PD.fd (q : PD) : List He.DefD := q.tab.map fun kf => kf.2.d
def PD.obs (q : PD) (K : Frag) : He.AlD := (q.chk K && q.fd.all fun d => d.ok K, q.fd.map fun d => He.fnW K d.at_)
def PD.obsG (q : PD) (n : Nat) (g : Addr → Option Obj) : He.AlD := q.obs (He.frG g (He.asD g n))
def PD.hook (q : PD) (n : Nat) : PySem.W.Hook where
  α := He.AlD
  obs := fun s => q.obsG n s.heap.get?
  val := fun _ => He.valD q.fd
  says := fun _ h => ∃ K : Frag, K.In h ∧ q.obs K = He.valD q.fd
  of := fun _ _ e => ⟨_, He.frG_in, e⟩
  keeps := fun _ _ _ ⟨K, hK, c⟩ k => ⟨K, PySem.W.Frag.In.keeps hK k, c⟩
theorem PD.obsG_eq {q : PD} {n : Nat} {g : Addr → Option Obj} {s : Shared} (h : ∀ a, g a = s.heap.get? a) : q.obsG n g = (q.hook n).obs s := by
  have e : g = s.heap.get? := funext h
  rw [e] <;> rfl
theorem clsB_ok {K : Frag} {c : Str} (h : clsB K c = true) : ClsOk K c := by
  obtain ⟨h1, h⟩ := He.ba h
  obtain ⟨h2, h⟩ := He.ba h
  obtain ⟨h3, h⟩ := He.ba h
  obtain ⟨h4, h5⟩ := He.ba h
  exact ⟨He.cls_ok h1, He.eqO_ok h2, He.eqO_ok h3, of_decide_eq_true h4, of_decide_eq_true h5⟩
theorem lookup_mem {α β : Type} [BEq α] [LawfulBEq α] {l : List (α × β)} {a : α} {b : β} (h : l.lookup a = some b) : (a, b) ∈ l := by
  induction l with
  | nil => cases h
  | cons y r ih =>
    obtain ⟨c, d⟩ := y
    have h' : (match a == c with | true => some d | false => r.lookup a) = some b := h
    cases e : a == c with
    | true =>
      rw [e] at h'
      cases h'
      rw [eq_of_beq e]
      exact List.mem_cons_self
    | false =>
      rw [e] at h'
      exact List.mem_cons_of_mem _ (ih h')
section
variable {q : PD} {K : Frag} {h : Heap} {mg : Str → Option Value}
theorem PD.gl_some {x : Str} {v : GV} (e : q.gl x = some v) : (q.fns.contains x = true ∧ ∃ f, q.at (x, none) = some f ∧ v = .fn f.ps.length f.ds) ∨ (q.clss.contains x = true ∧ ∃ f, q.at (x, some "__init__") = some f ∧ v = .cls (f.ps.length - 1) f.ds) ∨ ∃ c, q.cons.lookup x = some c ∧ v = .con c.d := by
  unfold PD.gl at e
  by_cases c1 : q.fns.contains x = true
  · rw [if_pos c1] at e
    obtain ⟨f, h1, h2⟩ := Option.map_eq_some_iff.mp e
    exact .inl ⟨c1, f, h1, h2.symm⟩
  · rw [if_neg c1] at e
    by_cases c2 : q.clss.contains x = true
    · rw [if_pos c2] at e
      obtain ⟨f, h1, h2⟩ := Option.map_eq_some_iff.mp e
      exact .inr (.inl ⟨c2, f, h1, h2.symm⟩)
    · rw [if_neg c2] at e
      obtain ⟨f, h1, h2⟩ := Option.map_eq_some_iff.mp e
      exact .inr (.inr ⟨f, h1, h2.symm⟩)
theorem PD.ok_of (X : K.In h) (G : h.Ns mainGlobals mg) (c : q.obs K = He.valD q.fd) : Ok K mg q.pol := by
  have c0 := (He.ba (show (q.chk K && q.fd.all fun d => d.ok K) = true from congrArg (fun z : He.AlD => z.1) c)).1
  obtain ⟨k1, c1⟩ := He.ba c0
  obtain ⟨k2, c2⟩ := He.ba c1
  obtain ⟨k3, c3⟩ := He.ba c2
  obtain ⟨k4, c4⟩ := He.ba c3
  obtain ⟨k5, c5⟩ := He.ba c4
  obtain ⟨k6, c6⟩ := He.ba c5
  obtain ⟨k7, c7⟩ := He.ba c6
  obtain ⟨k8, c8⟩ := He.ba c7
  obtain ⟨k9, k10⟩ := He.ba c8
  refine ⟨fun x np ds e => ?_, fun x np ds e => ?_, fun x d e => ?_, fun cn m np ds e => ?_, fun x e => ?_, fun cn f e => ?_, fun cn e => ?_, fun t ht cn e => ?_, fun cn cn' e e' => ?_, fun cn e x hx => ?_⟩
  · rcases PD.gl_some e with ⟨m, f, _, ev⟩ | ⟨m, f, _, ev⟩ | ⟨cc, _, ev⟩
    · obtain ⟨z1, z2⟩ := He.ba (List.all_eq_true.mp k1 x (List.contains_iff_mem.mp m))
      exact ⟨He.glo_ok X G z1, He.keep_ok z2⟩
    · cases ev
    · cases ev
  · rcases PD.gl_some e with ⟨m, f, _, ev⟩ | ⟨m, f, _, ev⟩ | ⟨cc, _, ev⟩
    · cases ev
    · obtain ⟨z1, z2⟩ := He.ba (List.all_eq_true.mp k2 x (List.contains_iff_mem.mp m))
      obtain ⟨z2, z3⟩ := He.ba z2
      exact ⟨He.glo_ok X G z1, He.mkr_ok z2, clsB_ok z3⟩
    · cases ev
  · rcases PD.gl_some e with ⟨m, f, _, ev⟩ | ⟨m, f, _, ev⟩ | ⟨cc, hc, ev⟩
    · cases ev
    · cases ev
    · cases ev
      have z := List.all_eq_true.mp k3 (x, cc) (lookup_mem hc)
      cases cc with
      | int i =>
        obtain ⟨t, h1⟩ := He.int_ok X G z
        exact ⟨_, .int i, h1, ⟨t, rfl⟩, fun g => .int i⟩
      | str i =>
        obtain ⟨t, h1⟩ := He.str_ok X G z
        exact ⟨_, .str i, h1, ⟨t, rfl⟩, fun g => .str i⟩
      | tup vs =>
        obtain ⟨z1, z2⟩ := He.ba (show ((He.Fa.glo x).ok K && (He.tupB K x vs && vs.all dvOk)) = true from z)
        obtain ⟨z2, z3⟩ := He.ba z2
        exact ⟨_, .ref (He.ga K x), He.glo_ok X G z1, rfl, fun g => .tup (He.tupB_ok z2 g.F) (rps_dv g fun v hv => List.all_eq_true.mp z3 v hv)⟩
  · have e' : (if q.mts.contains (cn, m) = true then (q.at (cn, some m)).map fun f => (f.ps.length - 1, f.ds) else none) = some (np, ds) := e
    by_cases c1 : q.mts.contains (cn, m) = true
    · exact He.meth_ok (List.all_eq_true.mp k4 (cn, m) (List.contains_iff_mem.mp c1))
    · rw [if_neg c1] at e'; cases e'
  · exact He.free_ok X G (List.all_eq_true.mp k5 x (List.contains_iff_mem.mp e))
  · exact He.noat_ok (List.all_eq_true.mp k6 (cn, f) (List.contains_iff_mem.mp e))
  · exact He.glo_ok X G (List.all_eq_true.mp k7 cn (List.contains_iff_mem.mp e))
  · exact of_decide_eq_true (List.all_eq_true.mp (List.all_eq_true.mp k8 t ht) cn (List.contains_iff_mem.mp e))
  · exact of_decide_eq_true (List.all_eq_true.mp (List.all_eq_true.mp k9 cn (List.contains_iff_mem.mp e)) cn' (List.contains_iff_mem.mp e'))
  · exact of_decide_eq_true (List.all_eq_true.mp (List.all_eq_true.mp k10 cn (List.contains_iff_mem.mp e)) x hx)
theorem PD.tab_of (o : q.ok = true) (c : q.obs K = He.valD q.fd) : Tab K q.pol q.at := by
  have c2 := (He.ba (show (q.chk K && q.fd.all fun d => d.ok K) = true from congrArg (fun z : He.AlD => z.1) c)).2
  have e : q.fd.map (fun d => He.fnW K d.at_) = q.fd.map He.DefD.val := congrArg (fun z : He.AlD => z.2) c
  obtain ⟨o12, o3⟩ := He.ba o
  obtain ⟨o1, o2⟩ := He.ba o12
  refine ⟨fun k f hk => ?_, fun x np ds e => ?_, fun x np ds e => ?_, fun cn m np ds e => ?_⟩
  · have hm := lookup_mem (show q.tab.lookup k = some f from hk)
    obtain ⟨z1, z2⟩ := He.ba (List.all_eq_true.mp o1 (k, f) hm)
    have z2' : f.d.at_ = k := of_decide_eq_true z2
    refine ⟨z1, ?_⟩
    have hd : f.d ∈ q.fd := List.mem_map.mpr ⟨(k, f), hm, rfl⟩
    obtain ⟨i, hi⟩ := List.getElem?_of_mem hd
    have e2 : (q.fd.map fun d => He.fnW K d.at_)[i]? = (q.fd.map He.DefD.val)[i]? := by rw [e]
    rw [List.getElem?_map, List.getElem?_map, hi] at e2
    have := He.DefD.funD (Option.some.inj e2) (List.all_eq_true.mp c2 f.d hd)
    rw [z2'] at this
    exact this
  · rcases PD.gl_some e with ⟨m, f, hf, ev⟩ | ⟨m, f, _, ev⟩ | ⟨cc, _, ev⟩
    · cases ev
      exact ⟨f, hf, rfl, rfl⟩
    · cases ev
    · cases ev
  · rcases PD.gl_some e with ⟨m, f, hf, ev⟩ | ⟨m, f, hf, ev⟩ | ⟨cc, _, ev⟩
    · cases ev
    · cases ev
      have z := List.all_eq_true.mp o2 x (List.contains_iff_mem.mp m)
      simp only [hf] at z
      exact ⟨f, hf, by have := of_decide_eq_true z; omega, rfl⟩
    · cases ev
  · have e' : (if q.mts.contains (cn, m) = true then (q.at (cn, some m)).map fun f => (f.ps.length - 1, f.ds) else none) = some (np, ds) := e
    by_cases c1 : q.mts.contains (cn, m) = true
    · rw [if_pos c1] at e'
      obtain ⟨f, h1, h2⟩ := Option.map_eq_some_iff.mp e'
      cases h2
      have z := List.all_eq_true.mp o3 (cn, m) (List.contains_iff_mem.mp c1)
      simp only [h1] at z
      exact ⟨f, h1, by have := of_decide_eq_true z; omega, rfl⟩
    · rw [if_neg c1] at e'; cases e'
def CXs (P : Program) : CXT := fun outer H s E u s' => ∃ w, L2.CX P w outer H s E u s'
theorem fn_any {P : Program} {w : World} {base : Heap} {k : Nat} {f : Addr} {fd : FuncData} {ps : List Str} {sp : Sp} (F : FnOk P w K mg base (L2.CX P w) k f fd ps sp) : FnOk P w K mg base (CXs P) k f fd ps sp :=
  ⟨F.len, fun A outer s H args us vs Q E h1 h2 h3 h4 h5 => codeAny_mono (F.run A outer s H args us vs Q E h1 h2 h3 h4 h5) fun r s' h => by
    cases r with
    | error e => exact ⟨w, h⟩
    | ok fl => cases fl <;> exact h⟩
theorem cxs_no {P : Program} (H : Hp) (s : Shared) (e : Value) (s' : Shared) (h : CXs P [] H s (fun _ _ _ => False) e s') : False := by
  obtain ⟨w, a, B, H', cls, d, h⟩ := h
  exact h.2.2.2.2.2.2.2
/-- the law's def, ready for walk_ofE -/
theorem PD.law {P : Program} {w : World} {n L m : Nat} {f : Df} {fa : Addr} (o : q.ok = true) (X : K.In h) (G : h.Ns mainGlobals mg) (c : q.obs K = He.valD q.fd) (hf : q.at ("law", none) = some f) (hp : f.ps = [("_law_script" : Str)]) (hd : f.d.dfl = [])
    (hg : q.fns.contains "law" = true) (hmg : mg ("law" : Str) = some (.ref fa)) (ns : Nat) (ht : ∀ xs : List Int, xs.length ≤ ns → ∃ S, callF q.pol q.at L m n ("law", none) [.scr xs] [] = .ok (.bl true) S) :
    ∃ (K : Frag) (fd : FuncData) (sp : Sp), K.In h ∧ (∀ (s : Shared) (u : Value), BindsTo s fd ⟨[u], []⟩ [("_law_script", u)]) ∧
        (∀ (H : Hp) (a : Addr) (xs : List Int), xs.length ≤ ns → Only H → SqL K H a (xs.map V.int) → sp [.ref a] H (fun v _ => v = .bl true) fun _ _ _ => False) ∧
        ∀ base : Heap, K.In base → base.Ns mainGlobals mg → FnOk P w K mg base (CXs P) (2 * n) fa fd [("_law_script" : Str)] sp := by
  have T := PD.tab_of o c
  obtain ⟨g1, fd, F⟩ := T.df ("law", none) f hf
  have G1 := Df.good_ok g1
  have efa : fa = He.ga K "law" := by
    have c0 := (He.ba (show (q.chk K && q.fd.all fun d => d.ok K) = true from congrArg (fun z : He.AlD => z.1) c)).1
    obtain ⟨z1, z2⟩ := He.ba (List.all_eq_true.mp (He.ba c0).1 "law" (List.contains_iff_mem.mp hg))
    have := He.glo_ok X G z1
    rw [hmg] at this
    cases this
    rfl
  refine ⟨K, fd, spD K 1 (callF q.pol q.at L m n ("law", none)), X, fun s u => ?_, fun H a xs hl only hS => ?_, fun base hK hG => ?_⟩
  · obtain ⟨oc, od, dV, kV, doc, pm, an, cdv, ct, osl, rfl, lk, hcd, hD, hK⟩ := F.ex
    rcases hD with ⟨_, rfl⟩ | ⟨ne, _⟩
    · obtain ⟨k, e1, e2⟩ := bindGen (name := f.d.name) (qual := f.d.qual) (body := f.d.body) (scope := f.d.scope) (dV := Value.none) (kV := kV) (doc := doc) (pm := pm) (an := an) (cdv := cdv) (ct := ct) G1.po G1.va G1.ko G1.kw (ps := f.ps) rfl G1.pn [u] [] (by rw [hp]; exact Nat.le_refl _) (Nat.zero_le _) (by rw [hp]; exact Nat.le_refl _)
      rw [seq_none, e2 none rfl] at e1
      rw [List.drop_nil, List.append_nil, hp] at e1
      exact .of_eq e1
    · exact absurd (by show f.d.dfl.map (He.Dv.v K) = []; rw [hd]; rfl) ne
  · obtain ⟨S, hS2⟩ := ht xs hl
    refine ⟨rfl, ⟨H, fun _ => none, []⟩, [], [.scr xs], ⟨fun a o e => e, (fun a o e => nomatch e), (fun a o e => nomatch e), rfl, (fun i m a e => by simp at e), (fun i j a m n e => by simp at e)⟩, .cons (.scr hS) .nil, ?_⟩
    rw [hS2]
    intro g' H' _ _ v rv
    cases rv
    rfl
  · rw [efa, ← hp]
    have l1 : f.ps.length = 1 := by rw [hp]; rfl
    have z := fn_ok1 (P := P) (w := w) (base := base) (L := L) (m := m) (PD.ok_of X G c) T n ("law", none) f hf fd F
    rw [l1] at z
    exact fn_any z
end
end Pv

set_option Elab.async false
set_option linter.all false
set_option maxRecDepth 100000
set_option maxHeartbeats 1000000
/-! Pv, part O: steps of the evaluator, for the plain part of a proof. -/
namespace Pv
open PySem L2
open PyProof.Rows hiding St
open PySem.W (Frag)
theorem callF_step {p : Pol} {tab : Fk → Option Df} {L m : Nat} {k : Fk} {f : Df} {M : Cf → DS} (ha : tab k = some f) (hb : ∀ cf, dBlk (dS p cf L m f.s) f.d.body = M cf) {n : Nat} (hn : 1 ≤ n) (xs : List D) (S : Sto) :
    callF p tab L m n k xs S = fin (p.keep k) S.length (M (callF p tab L m (n - 1)) (startD f.N xs) S) := by
  obtain ⟨n', rfl⟩ : ∃ n', n = n' + 1 := ⟨n - 1, by omega⟩
  rw [Nat.add_sub_cancel, ← hb]
  show (match tab k with
    | some f => fin (p.keep k) S.length (dBlk (dS p (callF p tab L m n') L m f.s) f.d.body (startD f.N xs) S)
    | none => .bad) = _
  rw [ha]
/-- the law's pen -/
structure Pen where
  cells : List Int
  pos : Int
  left : Int
def Pen.m (p : Pen) : MO := .dct [(.inr "cells", .lst (p.cells.map D.int)), (.inr "at", .int p.pos), (.inr "left", .int p.left)]
structure PenOk (k : Int) (p : Pen) : Prop where
  len : p.cells.length ≤ 63
  p0 : 0 ≤ p.pos
  pk : p.pos ≤ k
theorem PenOk.mono {j k : Int} {p : Pen} (h : PenOk j p) (l : j ≤ k) : PenOk k p := ⟨h.len, h.p0, Int.le_trans h.pk l⟩
theorem mulOk_l {i j : Int} (h : i.natAbs < 2 ^ 64) : mulOk i j = true := by
  unfold mulOk
  rw [decide_eq_true h]
  rfl
theorem mulOk_r {i j : Int} (h : j.natAbs < 2 ^ 64) : mulOk i j = true := by
  unfold mulOk
  rw [decide_eq_true h, Bool.or_true]
  rfl
theorem log_lt {i : Int} {k : Nat} (h : i.natAbs < 2 ^ k) (h0 : 0 < k) : i.natAbs.log2 < k := by
  by_cases c : i.natAbs = 0
  · rw [c]; exact h0
  · exact (Nat.log2_lt c).mpr h
theorem mulOk_b {i j : Int} {a b : Nat} (h : i.natAbs < 2 ^ a) (h' : j.natAbs < 2 ^ b) (ha : 0 < a) (hb : 0 < b) (hl : a + b ≤ 1000000) : mulOk i j = true := by
  unfold mulOk
  have h1 := log_lt h ha
  have h2 := log_lt h' hb
  rw [decide_eq_true (show i.natAbs.log2 + j.natAbs.log2 < 1000000 by omega), Bool.or_true]
theorem divOk_of {j : Int} (h : j ≠ 0) (h' : j.natAbs < 2 ^ 64) : divOk j = true := by
  unfold divOk
  have := log_lt h' (by decide)
  rw [decide_eq_true h, decide_eq_true (show j.natAbs.log2 < 9000 by omega)]
  rfl
end Pv

set_option Elab.async false
set_option linter.all false
set_option maxRecDepth 100000
set_option maxHeartbeats 0
namespace K49
open PySem L2 Pv
def top (i : Nat) : Stmt := PySem.Challenge.pw_figurestay_k49_whole_running_totals.main.body.getD i (.Pass ⟨0, 0, 0, 0⟩)
def inner (i j : Nat) : Stmt := match top i with
  | .ClassDef _ _ _ b _ _ _ _ _ _ _ => b.getD j (.Pass ⟨0, 0, 0, 0⟩)
  | _ => .Pass ⟨0, 0, 0, 0⟩
def f_ten_to : Df := ⟨⟨("ten_to", none), "ten_to", "ten_to", defArgs (top 6), defBody (top 6), defScope (top 6), [], []⟩, ["number", "made", "base"], []⟩
def f_is_integer : Df := ⟨⟨("is_integer", none), "is_integer", "is_integer", defArgs (top 7), defBody (top 7), defScope (top 7), [], []⟩, ["value"], []⟩
def f_is_whole : Df := ⟨⟨("is_whole", none), "is_whole", "is_whole", defArgs (top 8), defBody (top 8), defScope (top 8), [], []⟩, ["value"], []⟩
def f_need_integer : Df := ⟨⟨("need_integer", none), "need_integer", "need_integer", defArgs (top 9), defBody (top 9), defScope (top 9), [], []⟩, ["value"], []⟩
def f_need_whole : Df := ⟨⟨("need_whole", none), "need_whole", "need_whole", defArgs (top 10), defBody (top 10), defScope (top 10), [], []⟩, ["value"], []⟩
def f_lowered : Df := ⟨⟨("lowered", none), "lowered", "lowered", defArgs (top 12), defBody (top 12), defScope (top 12), [], []⟩, ["units", "scale"], []⟩
def f_Worth_init : Df := ⟨⟨("Worth", some "__init__"), "__init__", "Worth.__init__", defArgs (inner 13 0), defBody (inner 13 0), defScope (inner 13 0), [(.int 0)], []⟩, ["self", "units", "scale"], []⟩
def f_Worth_units_at : Df := ⟨⟨("Worth", some "units_at"), "units_at", "Worth.units_at", defArgs (inner 13 12), defBody (inner 13 12), defScope (inner 13 12), [], []⟩, ["self", "scale"], []⟩
def f_need_way : Df := ⟨⟨("need_way", none), "need_way", "need_way", defArgs (top 19), defBody (top 19), defScope (top 19), [], []⟩, ["value"], []⟩
def f_lift : Df := ⟨⟨("lift", none), "lift", "lift", defArgs (top 20), defBody (top 20), defScope (top 20), [], []⟩, ["way", "part", "negative", "odd", "ties"], []⟩
def f_part_of : Df := ⟨⟨("part_of", none), "part_of", "part_of", defArgs (top 21), defBody (top 21), defScope (top 21), [], []⟩, ["left", "divisor"], []⟩
def f_divided_by : Df := ⟨⟨("divided_by", none), "divided_by", "divided_by", defArgs (top 22), defBody (top 22), defScope (top 22), [], []⟩, ["number", "divisor", "way", "low", "left"], []⟩
def f_divided : Df := ⟨⟨("divided", none), "divided", "divided", defArgs (top 23), defBody (top 23), defScope (top 23), [], []⟩, ["number", "divisor", "way"], []⟩
def f_is_entry : Df := ⟨⟨("is_entry", none), "is_entry", "is_entry", defArgs (top 25), defBody (top 25), defScope (top 25), [], []⟩, ["value"], []⟩
def f_need_entries : Df := ⟨⟨("need_entries", none), "need_entries", "need_entries", defArgs (top 26), defBody (top 26), defScope (top 26), [], []⟩, ["entries", "index", "entry"], []⟩
def f_need_scale_and_way : Df := ⟨⟨("need_scale_and_way", none), "need_scale_and_way", "need_scale_and_way", defArgs (top 27), defBody (top 27), defScope (top 27), [], []⟩, ["scale", "way"], []⟩
def f_split_worth : Df := ⟨⟨("split_worth", none), "split_worth", "split_worth", defArgs (top 28), defBody (top 28), defScope (top 28), [], []⟩, ["worth", "scale", "unit", "units", "floor"], []⟩
def f_is_loose : Df := ⟨⟨("is_loose", none), "is_loose", "is_loose", defArgs (top 29), defBody (top 29), defScope (top 29), [], []⟩, ["remainder", "unit", "way"], []⟩
def f_alone : Df := ⟨⟨("alone", none), "alone", "alone", defArgs (top 30), defBody (top 30), defScope (top 30), [], []⟩, ["floor", "remainder", "unit", "way"], []⟩
def f_drifted : Df := ⟨⟨("drifted", none), "drifted", "drifted", defArgs (top 31), defBody (top 31), defScope (top 31), [], []⟩, ["state", "floor", "times", "above", "below", "first", "last", "turns"], []⟩
def f_added : Df := ⟨⟨("added", none), "added", "added", defArgs (top 32), defBody (top 32), defScope (top 32), [], []⟩, ["state", "parts", "times", "way", "floor", "remainder", "unit", "first"], []⟩
def f_run_through : Df := ⟨⟨("run_through", none), "run_through", "run_through", defArgs (top 33), defBody (top 33), defScope (top 33), [], []⟩, ["entries", "scale", "way", "state", "worth", "times"], []⟩
def f_running_total : Df := ⟨⟨("running_total", none), "running_total", "running_total", defArgs (top 34), defBody (top 34), defScope (top 34), [], []⟩, ["entries", "scale", "way"], []⟩
def f_law_pen : Df := ⟨⟨("_law_pen", none), "_law_pen", "_law_pen", defArgs (top 36), defBody (top 36), defScope (top 36), [], []⟩, ["_law_script"], ["return"]⟩
def f_law_draw : Df := ⟨⟨("_law_draw", none), "_law_draw", "_law_draw", defArgs (top 37), defBody (top 37), defScope (top 37), [], []⟩, ["_law_pen_here", "_law_span", "_law_digit", "_law_at_here", "_law_cell", "_law_mash"], []⟩
def f_law_pick : Df := ⟨⟨("_law_pick", none), "_law_pick", "_law_pick", defArgs (top 38), defBody (top 38), defScope (top 38), [], []⟩, ["_law_pen_here", "_law_menu"], []⟩
def f_law_great : Df := ⟨⟨("_law_great", none), "_law_great", "_law_great", defArgs (top 39), defBody (top 39), defScope (top 39), [], []⟩, ["_law_pen_here", "_law_figures", "_law_found", "_law_go"], []⟩
def f_law_signed : Df := ⟨⟨("_law_signed", none), "_law_signed", "_law_signed", defArgs (top 40), defBody (top 40), defScope (top 40), [], []⟩, ["_law_pen_here", "_law_figures", "_law_found"], []⟩
def f_law_ways : Df := ⟨⟨("_law_ways", none), "_law_ways", "_law_ways", defArgs (top 41), defBody (top 41), defScope (top 41), [], []⟩, [], []⟩
def f_law_tens : Df := ⟨⟨("_law_tens", none), "_law_tens", "_law_tens", defArgs (top 42), defBody (top 42), defScope (top 42), [], []⟩, ["_law_count", "_law_found", "_law_go"], []⟩
def f_law_rounded : Df := ⟨⟨("_law_rounded", none), "_law_rounded", "_law_rounded", defArgs (top 43), defBody (top 43), defScope (top 43), [], []⟩, ["_law_number", "_law_unit", "_law_way", "_law_floor", "_law_left"], []⟩
def f_law_own : Df := ⟨⟨("_law_own", none), "_law_own", "_law_own", defArgs (top 44), defBody (top 44), defScope (top 44), [], []⟩, ["_law_units_here", "_law_scale", "_law_go"], []⟩
def f_law_same : Df := ⟨⟨("_law_same", none), "_law_same", "_law_same", defArgs (top 45), defBody (top 45), defScope (top 45), [], []⟩, ["_law_worth", "_law_units_here", "_law_scale"], []⟩
def f_law_units : Df := ⟨⟨("_law_units", none), "_law_units", "_law_units", defArgs (top 46), defBody (top 46), defScope (top 46), [], []⟩, ["_law_pen_here", "_law_unit", "_law_figures", "_law_floor", "_law_path", "_law_half", "_law_part"], []⟩
def f_law_run : Df := ⟨⟨("_law_run", none), "_law_run", "_law_run", defArgs (top 47), defBody (top 47), defScope (top 47), [], []⟩, ["_law_row", "_law_unit", "_law_way", "_law_state", "_law_one"], []⟩
def f_law_at : Df := ⟨⟨("_law_at", none), "_law_at", "_law_at", defArgs (top 48), defBody (top 48), defScope (top 48), [], []⟩, ["_law_worth", "_law_scale"], []⟩
def f_law_small_right : Df := ⟨⟨("_law_small_right", none), "_law_small_right", "_law_small_right", defArgs (top 49), defBody (top 49), defScope (top 49), [], []⟩, ["_law_pen_here", "_law_unit", "_law_deep", "_law_scale", "_law_way", "_law_row", "_law_entries", "_law_go", "_law_one", "_law_times"], ["_law_entries"]⟩
def f_law_many : Df := ⟨⟨("_law_many", none), "_law_many", "_law_many", defArgs (top 50), defBody (top 50), defScope (top 50), [], []⟩, ["_law_pen_here", "_law_start", "_law_one", "_law_path"], []⟩
def f_law_long_right : Df := ⟨⟨("_law_long_right", none), "_law_long_right", "_law_long_right", defArgs (top 51), defBody (top 51), defScope (top 51), [], []⟩, ["_law_pen_here", "_law_unit", "_law_deep", "_law_scale", "_law_way", "_law_start", "_law_one", "_law_many_here", "_law_split", "_law_begin", "_law_worth", "_law_told", "_law_state", "_law_step", "_law_more", "_law_shared", "_law_last", "_law_go"], []⟩
def f_law : Df := ⟨⟨("law", none), "law", "law", defArgs (top 52), defBody (top 52), defScope (top 52), [], []⟩, ["_law_script", "_law_pen_here", "_law_lap", "_law_scale", "_law_places", "_law_unit", "_law_deep", "_law_go", "_law_way"], []⟩
def pd : PD where
  tab := ([(("ten_to", none), f_ten_to), (("is_integer", none), f_is_integer), (("is_whole", none), f_is_whole), (("need_integer", none), f_need_integer), (("need_whole", none), f_need_whole), (("lowered", none), f_lowered), (("Worth", some "__init__"), f_Worth_init), (("Worth", some "units_at"), f_Worth_units_at), (("need_way", none), f_need_way), (("lift", none), f_lift), (("part_of", none), f_part_of), (("divided_by", none), f_divided_by), (("divided", none), f_divided), (("is_entry", none), f_is_entry), (("need_entries", none), f_need_entries), (("need_scale_and_way", none), f_need_scale_and_way), (("split_worth", none), f_split_worth), (("is_loose", none), f_is_loose), (("alone", none), f_alone), (("drifted", none), f_drifted)] : List (Fk × Df)) ++ ([(("added", none), f_added), (("run_through", none), f_run_through), (("running_total", none), f_running_total), (("_law_pen", none), f_law_pen), (("_law_draw", none), f_law_draw), (("_law_pick", none), f_law_pick), (("_law_great", none), f_law_great), (("_law_signed", none), f_law_signed), (("_law_ways", none), f_law_ways), (("_law_tens", none), f_law_tens), (("_law_rounded", none), f_law_rounded), (("_law_own", none), f_law_own), (("_law_same", none), f_law_same), (("_law_units", none), f_law_units), (("_law_run", none), f_law_run), (("_law_at", none), f_law_at), (("_law_small_right", none), f_law_small_right), (("_law_many", none), f_law_many), (("_law_long_right", none), f_law_long_right), (("law", none), f_law)] : List (Fk × Df))
  fns := (["ten_to", "is_integer", "is_whole", "need_integer", "need_whole", "lowered", "need_way", "lift", "part_of", "divided_by", "divided", "is_entry", "need_entries", "need_scale_and_way", "split_worth", "is_loose", "alone", "drifted", "added", "run_through", "running_total", "_law_pen", "_law_draw", "_law_pick", "_law_great", "_law_signed", "_law_ways", "_law_tens", "_law_rounded", "_law_own"] : List PySem.Str) ++ (["_law_same", "_law_units", "_law_run", "_law_at", "_law_small_right", "_law_many", "_law_long_right", "law"] : List PySem.Str)
  clss := (["Worth"] : List PySem.Str)
  mts := [("Worth", "units_at")]
  cons := [("WAYS", .tup [(.str "floor"), (.str "ceiling"), (.str "cut"), (.str "away"), (.str "halfup"), (.str "halfdown"), (.str "halfeven"), (.str "halfaway"), (.str "halfcut")])]
  frees := (["range", "min", "len", "list", "int", "isinstance", "bool", "abs", "max", "enumerate", "tuple", "divmod"] : List PySem.Str)
  flds := [("Worth", "units"), ("Worth", "scale")]
  owns := (["Worth"] : List PySem.Str)
  ios := [("_law_draw", none), ("_law_pick", none), ("_law_great", none), ("_law_signed", none), ("_law_units", none), ("_law_small_right", none), ("_law_many", none), ("_law_long_right", none)]
  keeps := [("_law_pen", none)]
end K49

set_option Elab.async false
set_option linter.all false
set_option maxRecDepth 100000
set_option maxHeartbeats 0
namespace K49
open PySem L2 Pv
def t_ten_to_0 (cf : Cf) : DT :=
  (tOf (eBin (cop .Gt) (eVar 0) (eC (.int 0))))
theorem t_ten_to_0_K (cf : Cf) (env : Ev) (S : Sto) : t_ten_to_0 cf env S = (tOf (eBin (cop .Gt) (eVar 0) (eC (.int 0)))) env S := rfl
def w_ten_to_1 (cf : Cf) : DS :=
  (sSeq (sIf (tOf (eBin (cop .Eq) (eBin (bop .Mod) (eVar 0) (eC (.int 2))) (eC (.int 1))))
    (sSeq (sAsg (eBin (bop .Mult) (eVar 1) (eVar 2)) (gNm 1))
    sNext)
    sNext)
  (sSeq (sAsg (eBin (bop .Mult) (eVar 2) (eVar 2)) (gNm 2))
  (sSeq (sAsg (eBin (bop .FloorDiv) (eVar 0) (eC (.int 2))) (gNm 0))
  sNext)))
theorem w_ten_to_1_K (cf : Cf) (env : Ev) (S : Sto) : w_ten_to_1 cf env S = (sSeq (sIf (tOf (eBin (cop .Eq) (eBin (bop .Mod) (eVar 0) (eC (.int 2))) (eC (.int 1))))
    (sSeq (sAsg (eBin (bop .Mult) (eVar 1) (eVar 2)) (gNm 1))
    sNext)
    sNext)
  (sSeq (sAsg (eBin (bop .Mult) (eVar 2) (eVar 2)) (gNm 2))
  (sSeq (sAsg (eBin (bop .FloorDiv) (eVar 0) (eC (.int 2))) (gNm 0))
  sNext))) env S := rfl
def m_ten_to (cf : Cf) : DS :=
  (sSeq (sAsg (eTup (aCons (eC (.int 1)) (aCons (eC (.int 10)) aNil))) (gTp (gCons (gNm 1) (gCons (gNm 2) gNil))))
  (sSeq (whileD (t_ten_to_0 cf) (w_ten_to_1 cf) 100)
  (sSeq (sRet (eVar 1))
  sNext)))
theorem b_ten_to (cf : Cf) : dBlk (dS pd.pol cf 100 20 f_ten_to.s) f_ten_to.d.body = m_ten_to cf := by kernel_rfl
def m_is_integer (cf : Cf) : DS :=
  (sSeq (sRet (eAnd (eIsi pd.pol.own ["int"] (eVar 0)) (eNot (eIsi pd.pol.own ["bool"] (eVar 0)))))
  sNext)
theorem b_is_integer (cf : Cf) : dBlk (dS pd.pol cf 100 20 f_is_integer.s) f_is_integer.d.body = m_is_integer cf := by kernel_rfl
def m_is_whole (cf : Cf) : DS :=
  (sSeq (sRet (eAnd (eCall cf false ("is_integer", none) 1 ([] : List D) (aCons (eVar 0) aNil)) (eBin (cop .GtE) (eVar 0) (eC (.int 0)))))
  sNext)
theorem b_is_whole (cf : Cf) : dBlk (dS pd.pol cf 100 20 f_is_whole.s) f_is_whole.d.body = m_is_whole cf := by kernel_rfl
def m_need_integer (cf : Cf) : DS :=
  (sSeq (sIf (tNt (tOf (eCall cf false ("is_integer", none) 1 ([] : List D) (aCons (eVar 0) aNil))))
    (sSeq sBad
    sNext)
    sNext)
  sNext)
theorem b_need_integer (cf : Cf) : dBlk (dS pd.pol cf 100 20 f_need_integer.s) f_need_integer.d.body = m_need_integer cf := by kernel_rfl
def m_need_whole (cf : Cf) : DS :=
  (sSeq (sIf (tNt (tOf (eCall cf false ("is_whole", none) 1 ([] : List D) (aCons (eVar 0) aNil))))
    (sSeq sBad
    sNext)
    sNext)
  sNext)
theorem b_need_whole (cf : Cf) : dBlk (dS pd.pol cf 100 20 f_need_whole.s) f_need_whole.d.body = m_need_whole cf := by kernel_rfl
def t_lowered_0 (cf : Cf) : DT :=
  (tAn (tOf (eBin (cop .Gt) (eVar 1) (eC (.int 0)))) (tOf (eBin (cop .Eq) (eBin (bop .Mod) (eVar 0) (eC (.int 10))) (eC (.int 0)))))
theorem t_lowered_0_K (cf : Cf) (env : Ev) (S : Sto) : t_lowered_0 cf env S = (tAn (tOf (eBin (cop .Gt) (eVar 1) (eC (.int 0)))) (tOf (eBin (cop .Eq) (eBin (bop .Mod) (eVar 0) (eC (.int 10))) (eC (.int 0))))) env S := rfl
def w_lowered_1 (cf : Cf) : DS :=
  (sSeq (sAsg (eTup (aCons (eBin (bop .FloorDiv) (eVar 0) (eC (.int 10))) (aCons (eBin (bop .Sub) (eVar 1) (eC (.int 1))) aNil))) (gTp (gCons (gNm 0) (gCons (gNm 1) gNil))))
  sNext)
theorem w_lowered_1_K (cf : Cf) (env : Ev) (S : Sto) : w_lowered_1 cf env S = (sSeq (sAsg (eTup (aCons (eBin (bop .FloorDiv) (eVar 0) (eC (.int 10))) (aCons (eBin (bop .Sub) (eVar 1) (eC (.int 1))) aNil))) (gTp (gCons (gNm 0) (gCons (gNm 1) gNil))))
  sNext) env S := rfl
def m_lowered (cf : Cf) : DS :=
  (sSeq (sIf (tOf (eBin (cop .Eq) (eVar 0) (eC (.int 0))))
    (sSeq (sRet (eTup (aCons (eC (.int 0)) (aCons (eC (.int 0)) aNil))))
    sNext)
    sNext)
  (sSeq (whileD (t_lowered_0 cf) (w_lowered_1 cf) 100)
  (sSeq (sRet (eTup (aCons (eVar 0) (aCons (eVar 1) aNil))))
  sNext)))
theorem b_lowered (cf : Cf) : dBlk (dS pd.pol cf 100 20 f_lowered.s) f_lowered.d.body = m_lowered cf := by kernel_rfl
def m_Worth_init (cf : Cf) : DS :=
  (sSeq (sDrop (eCall cf false ("need_integer", none) 1 ([] : List D) (aCons (eVar 1) aNil)))
  (sSeq (sDrop (eCall cf false ("need_whole", none) 1 ([] : List D) (aCons (eVar 2) aNil)))
  (sSeq (sAsg (eCall cf false ("lowered", none) 2 ([] : List D) (aCons (eVar 1) (aCons (eVar 2) aNil))) (gTp (gCons (gFl pd.pol.fld "units" (eVar 0)) (gCons (gFl pd.pol.fld "scale" (eVar 0)) gNil))))
  sNext)))
theorem b_Worth_init (cf : Cf) : dBlk (dS pd.pol cf 100 20 f_Worth_init.s) f_Worth_init.d.body = m_Worth_init cf := by kernel_rfl
def m_Worth_units_at (cf : Cf) : DS :=
  (sSeq (sDrop (eCall cf false ("need_whole", none) 1 ([] : List D) (aCons (eVar 1) aNil)))
  (sSeq (sIf (tOf (eBin (cop .Lt) (eVar 1) (eFld pd.pol.fld "scale" (eVar 0))))
    (sSeq sBad
    sNext)
    sNext)
  (sSeq (sRet (eBin (bop .Mult) (eFld pd.pol.fld "units" (eVar 0)) (eCall cf false ("ten_to", none) 1 ([] : List D) (aCons (eBin (bop .Sub) (eVar 1) (eFld pd.pol.fld "scale" (eVar 0))) aNil))))
  sNext)))
theorem b_Worth_units_at (cf : Cf) : dBlk (dS pd.pol cf 100 20 f_Worth_units_at.s) f_Worth_units_at.d.body = m_Worth_units_at cf := by kernel_rfl
def m_need_way (cf : Cf) : DS :=
  (sSeq (sIf (tOf (eBin (cop .NotIn) (eVar 0) (eC (.tup [(.str "floor"), (.str "ceiling"), (.str "cut"), (.str "away"), (.str "halfup"), (.str "halfdown"), (.str "halfeven"), (.str "halfaway"), (.str "halfcut")]))))
    (sSeq sBad
    sNext)
    sNext)
  sNext)
theorem b_need_way (cf : Cf) : dBlk (dS pd.pol cf 100 20 f_need_way.s) f_need_way.d.body = m_need_way cf := by kernel_rfl
def m_lift (cf : Cf) : DS :=
  (sSeq (sIf (tO (tOf (eBin (cop .Eq) (eVar 1) (eC (.int 0)))) (tOf (eBin (cop .Eq) (eVar 0) (eC (.str "floor")))))
    (sSeq (sRet (eC (.int 0)))
    sNext)
    sNext)
  (sSeq (sIf (tOf (eBin (cop .Eq) (eVar 0) (eC (.str "ceiling"))))
    (sSeq (sRet (eC (.int 1)))
    sNext)
    sNext)
  (sSeq (sIf (tOf (eBin (cop .Eq) (eVar 0) (eC (.str "cut"))))
    (sSeq (sRet (eBi "int" (aCons (eVar 2) aNil)))
    sNext)
    sNext)
  (sSeq (sIf (tOf (eBin (cop .Eq) (eVar 0) (eC (.str "away"))))
    (sSeq (sRet (eBi "int" (aCons (eNot (eVar 2)) aNil)))
    sNext)
    sNext)
  (sSeq (sIf (tOf (eBin (cop .NotEq) (eVar 1) (eC (.int 2))))
    (sSeq (sRet (eBi "int" (aCons (eBin (cop .Eq) (eVar 1) (eC (.int 3))) aNil)))
    sNext)
    sNext)
  (sSeq (sAsg (eDct [((eC (.str "halfup")), (eC (.bl true))), ((eC (.str "halfdown")), (eC (.bl false))), ((eC (.str "halfeven")), (eVar 3)), ((eC (.str "halfaway")), (eNot (eVar 2))), ((eC (.str "halfcut")), (eVar 2))]) (gNm 4))
  (sSeq (sRet (eBi "int" (aCons (eBin ixD (eVar 4) (eVar 0)) aNil)))
  sNext)))))))
theorem b_lift (cf : Cf) : dBlk (dS pd.pol cf 100 20 f_lift.s) f_lift.d.body = m_lift cf := by kernel_rfl
def m_part_of (cf : Cf) : DS :=
  (sSeq (sIf (tOf (eBin (cop .Eq) (eVar 0) (eC (.int 0))))
    (sSeq (sRet (eC (.int 0)))
    sNext)
    sNext)
  (sSeq (sRet (eBin (bop .Sub) (eBin (bop .Add) (eC (.int 2)) (eBi "int" (aCons (eBin (cop .Gt) (eBin (bop .Mult) (eC (.int 2)) (eVar 0)) (eVar 1)) aNil))) (eBi "int" (aCons (eBin (cop .Lt) (eBin (bop .Mult) (eC (.int 2)) (eVar 0)) (eVar 1)) aNil))))
  sNext))
theorem b_part_of (cf : Cf) : dBlk (dS pd.pol cf 100 20 f_part_of.s) f_part_of.d.body = m_part_of cf := by kernel_rfl
def m_divided_by (cf : Cf) : DS :=
  (sSeq (sAsg (eBi "divmod" (aCons (eVar 0) (aCons (eVar 1) aNil))) (gTp (gCons (gNm 3) (gCons (gNm 4) gNil))))
  (sSeq (sRet (eBin (bop .Add) (eVar 3) (eCall cf false ("lift", none) 4 ([] : List D) (aCons (eVar 2) (aCons (eCall cf false ("part_of", none) 2 ([] : List D) (aCons (eVar 4) (aCons (eVar 1) aNil))) (aCons (eBin (cop .Lt) (eVar 0) (eC (.int 0))) (aCons (eBin (cop .Eq) (eBin (bop .Mod) (eVar 3) (eC (.int 2))) (eC (.int 1))) aNil)))))))
  sNext))
theorem b_divided_by (cf : Cf) : dBlk (dS pd.pol cf 100 20 f_divided_by.s) f_divided_by.d.body = m_divided_by cf := by kernel_rfl
def m_divided (cf : Cf) : DS :=
  (sSeq (sDrop (eCall cf false ("need_integer", none) 1 ([] : List D) (aCons (eVar 0) aNil)))
  (sSeq (sIf (tO (tNt (tOf (eCall cf false ("is_integer", none) 1 ([] : List D) (aCons (eVar 1) aNil)))) (tOf (eBin (cop .Lt) (eVar 1) (eC (.int 1)))))
    (sSeq sBad
    sNext)
    sNext)
  (sSeq (sDrop (eCall cf false ("need_way", none) 1 ([] : List D) (aCons (eVar 2) aNil)))
  (sSeq (sRet (eCall cf false ("divided_by", none) 3 ([] : List D) (aCons (eVar 0) (aCons (eVar 1) (aCons (eVar 2) aNil)))))
  sNext))))
theorem b_divided (cf : Cf) : dBlk (dS pd.pol cf 100 20 f_divided.s) f_divided.d.body = m_divided cf := by kernel_rfl
def m_is_entry (cf : Cf) : DS :=
  (sSeq (sIf (tO (tNt (tOf (eIsi pd.pol.own ["tuple", "list"] (eVar 0)))) (tOf (eBin (cop .NotEq) (eBi "len" (aCons (eVar 0) aNil)) (eC (.int 2)))))
    (sSeq (sRet (eC (.bl false)))
    sNext)
    sNext)
  (sSeq (sRet (eAnd (eIsi pd.pol.own ["Worth"] (eBin ixD (eVar 0) (eC (.int 0)))) (eCall cf false ("is_whole", none) 1 ([] : List D) (aCons (eBin ixD (eVar 0) (eC (.int 1))) aNil))))
  sNext))
theorem b_is_entry (cf : Cf) : dBlk (dS pd.pol cf 100 20 f_is_entry.s) f_is_entry.d.body = m_is_entry cf := by kernel_rfl
def w_need_entries_0 (cf : Cf) : DS :=
  (sSeq (sIf (tNt (tOf (eCall cf false ("is_entry", none) 1 ([] : List D) (aCons (eVar 2) aNil))))
    (sSeq sBad
    sNext)
    sNext)
  sNext)
theorem w_need_entries_0_K (cf : Cf) (env : Ev) (S : Sto) : w_need_entries_0 cf env S = (sSeq (sIf (tNt (tOf (eCall cf false ("is_entry", none) 1 ([] : List D) (aCons (eVar 2) aNil))))
    (sSeq sBad
    sNext)
    sNext)
  sNext) env S := rfl
def m_need_entries (cf : Cf) : DS :=
  (sSeq (sForE (eVar 0) (gTp (gCons (gNm 1) (gCons (gNm 2) gNil)))
    (w_need_entries_0 cf))
  sNext)
theorem b_need_entries (cf : Cf) : dBlk (dS pd.pol cf 100 20 f_need_entries.s) f_need_entries.d.body = m_need_entries cf := by kernel_rfl
def m_need_scale_and_way (cf : Cf) : DS :=
  (sSeq (sIf (tNt (tOf (eCall cf false ("is_whole", none) 1 ([] : List D) (aCons (eVar 0) aNil))))
    (sSeq sBad
    sNext)
    sNext)
  (sSeq (sIf (tOf (eBin (cop .NotIn) (eVar 1) (eC (.tup [(.str "floor"), (.str "ceiling"), (.str "cut"), (.str "away"), (.str "halfup"), (.str "halfdown"), (.str "halfeven"), (.str "halfaway"), (.str "halfcut")]))))
    (sSeq sBad
    sNext)
    sNext)
  sNext))
theorem b_need_scale_and_way (cf : Cf) : dBlk (dS pd.pol cf 100 20 f_need_scale_and_way.s) f_need_scale_and_way.d.body = m_need_scale_and_way cf := by kernel_rfl
def m_split_worth (cf : Cf) : DS :=
  (sSeq (sAsg (eC (.int 1)) (gNm 2))
  (sSeq (sIf (tOf (eBin (cop .Gt) (eFld pd.pol.fld "scale" (eVar 0)) (eVar 1)))
    (sSeq (sAsg (eCall cf false ("ten_to", none) 1 ([] : List D) (aCons (eBin (bop .Sub) (eFld pd.pol.fld "scale" (eVar 0)) (eVar 1)) aNil)) (gNm 2))
    sNext)
    sNext)
  (sSeq (sAsg (eMeth cf pd.pol.io pd.pol.mt "units_at" (eVar 0) (aCons (eBi "max" (aCons (eVar 1) (aCons (eFld pd.pol.fld "scale" (eVar 0)) aNil))) aNil)) (gNm 3))
  (sSeq (sAsg (eBin (bop .FloorDiv) (eVar 3) (eVar 2)) (gNm 4))
  (sSeq (sRet (eTup (aCons (eVar 4) (aCons (eBin (bop .Sub) (eVar 3) (eBin (bop .Mult) (eVar 4) (eVar 2))) (aCons (eVar 2) aNil)))))
  sNext)))))
theorem b_split_worth (cf : Cf) : dBlk (dS pd.pol cf 100 20 f_split_worth.s) f_split_worth.d.body = m_split_worth cf := by kernel_rfl
def m_is_loose (cf : Cf) : DS :=
  (sSeq (sIf (tO (tOf (eBin (cop .Eq) (eVar 2) (eC (.str "cut")))) (tOf (eBin (cop .Eq) (eVar 2) (eC (.str "away")))))
    (sSeq (sRet (eBin (cop .NotEq) (eVar 0) (eC (.int 0))))
    sNext)
    sNext)
  (sSeq (sIf (tO (tOf (eBin (cop .Eq) (eVar 2) (eC (.str "halfeven")))) (tO (tOf (eBin (cop .Eq) (eVar 2) (eC (.str "halfaway")))) (tOf (eBin (cop .Eq) (eVar 2) (eC (.str "halfcut"))))))
    (sSeq (sRet (eBin (cop .Eq) (eBin (bop .Mult) (eC (.int 2)) (eVar 0)) (eVar 1)))
    sNext)
    sNext)
  (sSeq (sRet (eC (.bl false)))
  sNext)))
theorem b_is_loose (cf : Cf) : dBlk (dS pd.pol cf 100 20 f_is_loose.s) f_is_loose.d.body = m_is_loose cf := by kernel_rfl
def m_alone (cf : Cf) : DS :=
  (sSeq (sRet (eCall cf false ("divided", none) 3 ([] : List D) (aCons (eBin (bop .Add) (eBin (bop .Mult) (eVar 0) (eVar 2)) (eVar 1)) (aCons (eVar 2) (aCons (eVar 3) aNil)))))
  sNext)
theorem b_alone (cf : Cf) : dBlk (dS pd.pol cf 100 20 f_alone.s) f_alone.d.body = m_alone cf := by kernel_rfl
def m_drifted (cf : Cf) : DS :=
  (sSeq (sIf (tOf (eBin (cop .GtE) (eBin (bop .Add) (eVar 0) (eVar 1)) (eC (.int 0))))
    (sSeq (sAsg (eTup (aCons (eVar 3) (aCons (eVar 4) aNil))) (gTp (gCons (gNm 5) (gCons (gNm 6) gNil))))
    (sSeq (sAsg (eVar 2) (gNm 7))
    (sSeq (sIf (tOf (eBin (cop .Lt) (eVar 3) (eC (.int 0))))
      (sSeq (sAsg (eBi "min" (aCons (eVar 2) (aCons (eBin (bop .Add) (eBin (bop .FloorDiv) (eBin (bop .Add) (eVar 0) (eVar 1)) (eBin (bop .Sub) (eC (.int 0)) (eVar 3))) (eC (.int 1))) aNil))) (gNm 7))
      sNext)
      sNext)
    sNext)))
    (sSeq (sAsg (eTup (aCons (eVar 4) (aCons (eVar 3) aNil))) (gTp (gCons (gNm 5) (gCons (gNm 6) gNil))))
    (sSeq (sAsg (eVar 2) (gNm 7))
    (sSeq (sIf (tOf (eBin (cop .Gt) (eVar 4) (eC (.int 0))))
      (sSeq (sAsg (eBi "min" (aCons (eVar 2) (aCons (eBin (bop .Add) (eBin (bop .FloorDiv) (eBin (bop .Sub) (eBin (bop .Sub) (eBin (bop .Sub) (eC (.int 0)) (eVar 0)) (eVar 1)) (eC (.int 1))) (eVar 4)) (eC (.int 1))) aNil))) (gNm 7))
      sNext)
      sNext)
    sNext))))
  (sSeq (sRet (eBin (bop .Add) (eBin (bop .Add) (eVar 0) (eBin (bop .Mult) (eVar 7) (eVar 5))) (eBin (bop .Mult) (eBin (bop .Sub) (eVar 2) (eVar 7)) (eVar 6))))
  sNext))
theorem b_drifted (cf : Cf) : dBlk (dS pd.pol cf 100 20 f_drifted.s) f_drifted.d.body = m_drifted cf := by kernel_rfl
def m_added (cf : Cf) : DS :=
  (sSeq (sAsg (eVar 1) (gTp (gCons (gNm 4) (gCons (gNm 5) (gCons (gNm 6) gNil)))))
  (sSeq (sIf (tOf (eBin (cop .Eq) (eVar 2) (eC (.int 0))))
    (sSeq (sRet (eVar 0))
    sNext)
    sNext)
  (sSeq (sIf (tNt (tOf (eCall cf false ("is_loose", none) 3 ([] : List D) (aCons (eVar 5) (aCons (eVar 6) (aCons (eVar 3) aNil))))))
    (sSeq (sRet (eBin (bop .Add) (eVar 0) (eBin (bop .Mult) (eVar 2) (eCall cf false ("alone", none) 4 ([] : List D) (aCons (eVar 4) (aCons (eVar 5) (aCons (eVar 6) (aCons (eVar 3) aNil))))))))
    sNext)
    sNext)
  (sSeq (sIf (tOf (eBin (cop .Eq) (eVar 3) (eC (.str "halfeven"))))
    (sSeq (sAsg (eBin (bop .Add) (eVar 0) (eVar 4)) (gNm 7))
    (sSeq (sAug 7 iAdd (eBin (bop .Mod) (eVar 7) (eC (.int 2))))
    (sSeq (sRet (eBin (bop .Add) (eVar 7) (eBin (bop .Mult) (eBin (bop .Sub) (eVar 2) (eC (.int 1))) (eBin (bop .Add) (eVar 4) (eBin (bop .Mod) (eVar 4) (eC (.int 2)))))))
    sNext)))
    sNext)
  (sSeq (sIf (tO (tOf (eBin (cop .Eq) (eVar 3) (eC (.str "cut")))) (tOf (eBin (cop .Eq) (eVar 3) (eC (.str "halfcut")))))
    (sSeq (sRet (eCall cf false ("drifted", none) 5 ([] : List D) (aCons (eVar 0) (aCons (eVar 4) (aCons (eVar 2) (aCons (eVar 4) (aCons (eBin (bop .Add) (eVar 4) (eC (.int 1))) aNil)))))))
    sNext)
    sNext)
  (sSeq (sRet (eCall cf false ("drifted", none) 5 ([] : List D) (aCons (eVar 0) (aCons (eVar 4) (aCons (eVar 2) (aCons (eBin (bop .Add) (eVar 4) (eC (.int 1))) (aCons (eVar 4) aNil)))))))
  sNext))))))
theorem b_added (cf : Cf) : dBlk (dS pd.pol cf 100 20 f_added.s) f_added.d.body = m_added cf := by kernel_rfl
def w_run_through_0 (cf : Cf) : DS :=
  (sSeq (sAsg (eCall cf false ("added", none) 4 ([] : List D) (aCons (eVar 3) (aCons (eCall cf false ("split_worth", none) 2 ([] : List D) (aCons (eVar 4) (aCons (eVar 1) aNil))) (aCons (eVar 5) (aCons (eVar 2) aNil))))) (gNm 3))
  sNext)
theorem w_run_through_0_K (cf : Cf) (env : Ev) (S : Sto) : w_run_through_0 cf env S = (sSeq (sAsg (eCall cf false ("added", none) 4 ([] : List D) (aCons (eVar 3) (aCons (eCall cf false ("split_worth", none) 2 ([] : List D) (aCons (eVar 4) (aCons (eVar 1) aNil))) (aCons (eVar 5) (aCons (eVar 2) aNil))))) (gNm 3))
  sNext) env S := rfl
def m_run_through (cf : Cf) : DS :=
  (sSeq (sAsg (eC (.int 0)) (gNm 3))
  (sSeq (sFor (eVar 0) (gTp (gCons (gNm 4) (gCons (gNm 5) gNil)))
    (w_run_through_0 cf))
  (sSeq (sRet (eVar 3))
  sNext)))
theorem b_run_through (cf : Cf) : dBlk (dS pd.pol cf 100 20 f_run_through.s) f_run_through.d.body = m_run_through cf := by kernel_rfl
def m_running_total (cf : Cf) : DS :=
  (sSeq (sDrop (eCall cf false ("need_entries", none) 1 ([] : List D) (aCons (eVar 0) aNil)))
  (sSeq (sDrop (eCall cf false ("need_scale_and_way", none) 2 ([] : List D) (aCons (eVar 1) (aCons (eVar 2) aNil))))
  (sSeq (sRet (eMake cf "Worth" 2 ([(.int 0)] : List D) (aCons (eCall cf false ("run_through", none) 3 ([] : List D) (aCons (eVar 0) (aCons (eVar 1) (aCons (eVar 2) aNil)))) (aCons (eVar 1) aNil))))
  sNext)))
theorem b_running_total (cf : Cf) : dBlk (dS pd.pol cf 100 20 f_running_total.s) f_running_total.d.body = m_running_total cf := by kernel_rfl
def m_law_pen (cf : Cf) : DS :=
  (sSeq (sRet (mDct [((eC (.str "cells")), (eBi "list" (aCons (eSl (eVar 0) none (some (eC (.int 63)))) aNil))), ((eC (.str "at")), (eC (.int 0))), ((eC (.str "left")), (eC (.int 0)))]))
  sNext)
theorem b_law_pen (cf : Cf) : dBlk (dS pd.pol cf 100 20 f_law_pen.s) f_law_pen.d.body = m_law_pen cf := by kernel_rfl
def m_law_draw (cf : Cf) : DS :=
  (sSeq (sIf (tOf (eBin (cop .GtE) (eBin ixD (eVar 0) (eC (.str "left"))) (eVar 1)))
    (sSeq (sAsg (eBin (bop .Mod) (eBi "int" (aCons (eBin ixD (eVar 0) (eC (.str "left"))) aNil)) (eVar 1)) (gNm 2))
    (sSeq (sAsg (eBin (bop .FloorDiv) (eBin ixD (eVar 0) (eC (.str "left"))) (eVar 1)) (gSb (eVar 0) (eC (.str "left"))))
    (sSeq (sRet (eVar 2))
    sNext)))
    sNext)
  (sSeq (sAsg (eBin ixD (eVar 0) (eC (.str "at"))) (gNm 3))
  (sSeq (sAsg (eBin (bop .Add) (eVar 3) (eC (.int 1))) (gSb (eVar 0) (eC (.str "at"))))
  (sSeq (sAsg (eBin (bop .Add) (eBin (bop .Mult) (eC (.int 83)) (eVar 3)) (eC (.int 71))) (gNm 4))
  (sSeq (sIf (tOf (eBin (cop .NotEq) (eBin ixD (eVar 0) (eC (.str "cells"))) (eLst aNil)))
    (sSeq (sAsg (eBin ixD (eBin ixD (eVar 0) (eC (.str "cells"))) (eBin (bop .Mod) (eBi "int" (aCons (eVar 3) aNil)) (eBi "len" (aCons (eBin ixD (eVar 0) (eC (.str "cells"))) aNil)))) (gNm 4))
    sNext)
    sNext)
  (sSeq (sIf (tAn (tOf (eBin (cop .Lt) (eVar 3) (eBi "len" (aCons (eBin ixD (eVar 0) (eC (.str "cells"))) aNil)))) (tOf (eBin (cop .GtE) (eVar 4) (eBin (bop .Pow) (eC (.int 10)) (eC (.int 18))))))
    (sSeq (sAsg (eBin (bop .FloorDiv) (eBin (bop .Sub) (eVar 4) (eBin (bop .Pow) (eC (.int 10)) (eC (.int 18)))) (eVar 1)) (gSb (eVar 0) (eC (.str "left"))))
    (sSeq (sRet (eBin (bop .Mod) (eBi "int" (aCons (eBin (bop .Sub) (eVar 4) (eBin (bop .Pow) (eC (.int 10)) (eC (.int 18)))) aNil)) (eVar 1)))
    sNext))
    sNext)
  (sSeq (sAsg (eBin (bop .Add) (eBin (bop .Mult) (eBin (bop .Mod) (eBi "int" (aCons (eVar 4) aNil)) (eC (.int 2147482361))) (eC (.int 45533))) (eBin (bop .Mult) (eBin (bop .Mult) (eC (.int 33521)) (eVar 3)) (eVar 3))) (gNm 5))
  (sSeq (sAsg (eBin (bop .Mod) (eBi "int" (aCons (eBin (bop .Add) (eBin (bop .Add) (eVar 5) (eBin (bop .Mult) (eC (.int 131)) (eVar 3))) (eC (.int 37))) aNil)) (eC (.int 2147482409))) (gNm 5))
  (sSeq (sAsg (eBin (bop .Mod) (eBi "int" (aCons (eBin (bop .Add) (eBin (bop .Mult) (eVar 5) (eBin (bop .Add) (eVar 5) (eC (.int 70429)))) (eBin (bop .Mult) (eC (.int 5)) (eVar 3))) aNil)) (eC (.int 2147482501))) (gNm 5))
  (sSeq (sRet (eBin (bop .Mod) (eBi "int" (aCons (eBin (bop .FloorDiv) (eBin (bop .Mod) (eBi "int" (aCons (eBin (bop .Add) (eBin (bop .Mult) (eVar 5) (eVar 5)) (eBin (bop .Mult) (eC (.int 47)) (eVar 5))) aNil)) (eC (.int 2147482573))) (eC (.int 32))) aNil)) (eVar 1)))
  sNext))))))))))
theorem b_law_draw (cf : Cf) : dBlk (dS pd.pol cf 100 20 f_law_draw.s) f_law_draw.d.body = m_law_draw cf := by kernel_rfl
def m_law_pick (cf : Cf) : DS :=
  (sSeq (sRet (eBin ixD (eVar 1) (eCall cf true ("_law_draw", none) 2 ([] : List D) (aCons (eVar 0) (aCons (eBi "len" (aCons (eVar 1) aNil)) aNil)))))
  sNext)
theorem b_law_pick (cf : Cf) : dBlk (dS pd.pol cf 100 20 f_law_pick.s) f_law_pick.d.body = m_law_pick cf := by kernel_rfl
def w_law_great_0 (cf : Cf) : DS :=
  (sSeq (sAsg (eBin (bop .Add) (eBin (bop .Mult) (eVar 2) (eBin (bop .Pow) (eC (.int 10)) (eC (.int 7)))) (eCall cf true ("_law_draw", none) 2 ([] : List D) (aCons (eVar 0) (aCons (eBin (bop .Pow) (eC (.int 10)) (eC (.int 7))) aNil)))) (gNm 2))
  sNext)
theorem w_law_great_0_K (cf : Cf) (env : Ev) (S : Sto) : w_law_great_0 cf env S = (sSeq (sAsg (eBin (bop .Add) (eBin (bop .Mult) (eVar 2) (eBin (bop .Pow) (eC (.int 10)) (eC (.int 7)))) (eCall cf true ("_law_draw", none) 2 ([] : List D) (aCons (eVar 0) (aCons (eBin (bop .Pow) (eC (.int 10)) (eC (.int 7))) aNil)))) (gNm 2))
  sNext) env S := rfl
def m_law_great (cf : Cf) : DS :=
  (sSeq (sAsg (eC (.int 0)) (gNm 2))
  (sSeq (sForR (eC (.int 0)) (eBin (bop .Add) (eC (.int 1)) (eCall cf true ("_law_draw", none) 2 ([] : List D) (aCons (eVar 0) (aCons (eBin (bop .FloorDiv) (eVar 1) (eC (.int 7))) aNil)))) (gNm 3)
    (w_law_great_0 cf))
  (sSeq (sRet (eVar 2))
  sNext)))
theorem b_law_great (cf : Cf) : dBlk (dS pd.pol cf 100 20 f_law_great.s) f_law_great.d.body = m_law_great cf := by kernel_rfl
def m_law_signed (cf : Cf) : DS :=
  (sSeq (sAsg (eIf (tO (tOf (eBin (cop .Lt) (eVar 1) (eC (.int 7)))) (tOf (eBin (cop .Gt) (eCall cf true ("_law_draw", none) 2 ([] : List D) (aCons (eVar 0) (aCons (eC (.int 4)) aNil))) (eC (.int 0))))) (eCall cf true ("_law_draw", none) 2 ([] : List D) (aCons (eVar 0) (aCons (eC (.int 5)) aNil))) (eCall cf true ("_law_great", none) 2 ([] : List D) (aCons (eVar 0) (aCons (eVar 1) aNil)))) (gNm 2))
  (sSeq (sRet (eIf (tOf (eBin (cop .Eq) (eCall cf true ("_law_draw", none) 2 ([] : List D) (aCons (eVar 0) (aCons (eC (.int 2)) aNil))) (eC (.int 0)))) (eVar 2) (eNeg (eVar 2))))
  sNext))
theorem b_law_signed (cf : Cf) : dBlk (dS pd.pol cf 100 20 f_law_signed.s) f_law_signed.d.body = m_law_signed cf := by kernel_rfl
def m_law_ways (cf : Cf) : DS :=
  (sSeq (sRet (eLst (aCons (eC (.str "floor")) (aCons (eC (.str "ceiling")) (aCons (eC (.str "cut")) (aCons (eC (.str "away")) (aCons (eC (.str "halfup")) (aCons (eC (.str "halfdown")) (aCons (eC (.str "halfeven")) (aCons (eC (.str "halfaway")) (aCons (eC (.str "halfcut")) aNil)))))))))))
  sNext)
theorem b_law_ways (cf : Cf) : dBlk (dS pd.pol cf 100 20 f_law_ways.s) f_law_ways.d.body = m_law_ways cf := by kernel_rfl
def w_law_tens_0 (cf : Cf) : DS :=
  (sSeq (sAsg (eBin (bop .Mult) (eVar 1) (eC (.int 10))) (gNm 1))
  sNext)
theorem w_law_tens_0_K (cf : Cf) (env : Ev) (S : Sto) : w_law_tens_0 cf env S = (sSeq (sAsg (eBin (bop .Mult) (eVar 1) (eC (.int 10))) (gNm 1))
  sNext) env S := rfl
def m_law_tens (cf : Cf) : DS :=
  (sSeq (sAsg (eC (.int 1)) (gNm 1))
  (sSeq (sForR (eC (.int 0)) (eVar 0) (gNm 2)
    (w_law_tens_0 cf))
  (sSeq (sRet (eVar 1))
  sNext)))
theorem b_law_tens (cf : Cf) : dBlk (dS pd.pol cf 100 20 f_law_tens.s) f_law_tens.d.body = m_law_tens cf := by kernel_rfl
def m_law_rounded (cf : Cf) : DS :=
  (sSeq (sAsg (eTup (aCons (eBin (bop .FloorDiv) (eVar 0) (eVar 1)) (aCons (eBin (bop .Mod) (eBi "int" (aCons (eVar 0) aNil)) (eVar 1)) aNil))) (gTp (gCons (gNm 3) (gCons (gNm 4) gNil))))
  (sSeq (sIf (tO (tOf (eBin (cop .Eq) (eVar 4) (eC (.int 0)))) (tOf (eBin (cop .Eq) (eVar 2) (eC (.str "floor")))))
    (sSeq (sRet (eVar 3))
    sNext)
    sNext)
  (sSeq (sIf (tOf (eBin (cop .Eq) (eVar 2) (eC (.str "ceiling"))))
    (sSeq (sRet (eBin (bop .Add) (eVar 3) (eC (.int 1))))
    sNext)
    sNext)
  (sSeq (sIf (tO (tOf (eBin (cop .Eq) (eVar 2) (eC (.str "cut")))) (tOf (eBin (cop .Eq) (eVar 2) (eC (.str "away")))))
    (sSeq (sRet (eBin (bop .Add) (eVar 3) (eBi "int" (aCons (eBin (cop .Eq) (eBin (cop .Lt) (eVar 0) (eC (.int 0))) (eBin (cop .Eq) (eVar 2) (eC (.str "cut")))) aNil))))
    sNext)
    sNext)
  (sSeq (sIf (tOf (eBin (cop .NotEq) (eBin (bop .Mult) (eC (.int 2)) (eVar 4)) (eVar 1)))
    (sSeq (sRet (eBin (bop .Add) (eVar 3) (eBi "int" (aCons (eBin (cop .Gt) (eBin (bop .Mult) (eC (.int 2)) (eVar 4)) (eVar 1)) aNil))))
    sNext)
    sNext)
  (sSeq (sIf (tOf (eBin (cop .Eq) (eVar 2) (eC (.str "halfeven"))))
    (sSeq (sRet (eBin (bop .Add) (eVar 3) (eBin (bop .Mod) (eBi "int" (aCons (eVar 3) aNil)) (eC (.int 2)))))
    sNext)
    sNext)
  (sSeq (sIf (tO (tOf (eBin (cop .Eq) (eVar 2) (eC (.str "halfup")))) (tOf (eBin (cop .Eq) (eVar 2) (eC (.str "halfdown")))))
    (sSeq (sRet (eBin (bop .Add) (eVar 3) (eBi "int" (aCons (eBin (cop .Eq) (eVar 2) (eC (.str "halfup"))) aNil))))
    sNext)
    sNext)
  (sSeq (sRet (eBin (bop .Add) (eVar 3) (eBi "int" (aCons (eBin (cop .Eq) (eBin (cop .Lt) (eVar 0) (eC (.int 0))) (eBin (cop .Eq) (eVar 2) (eC (.str "halfcut")))) aNil))))
  sNext))))))))
theorem b_law_rounded (cf : Cf) : dBlk (dS pd.pol cf 100 20 f_law_rounded.s) f_law_rounded.d.body = m_law_rounded cf := by kernel_rfl
def w_law_own_0 (cf : Cf) : DS :=
  (sSeq (sIf (tOf (eBin (cop .Eq) (eBin (bop .Mod) (eBi "int" (aCons (eVar 0) aNil)) (eC (.int 10))) (eC (.int 0))))
    (sSeq (sAsg (eTup (aCons (eBin (bop .FloorDiv) (eVar 0) (eC (.int 10))) (aCons (eBin (bop .Sub) (eVar 1) (eC (.int 1))) aNil))) (gTp (gCons (gNm 0) (gCons (gNm 1) gNil))))
    sNext)
    sNext)
  sNext)
theorem w_law_own_0_K (cf : Cf) (env : Ev) (S : Sto) : w_law_own_0 cf env S = (sSeq (sIf (tOf (eBin (cop .Eq) (eBin (bop .Mod) (eBi "int" (aCons (eVar 0) aNil)) (eC (.int 10))) (eC (.int 0))))
    (sSeq (sAsg (eTup (aCons (eBin (bop .FloorDiv) (eVar 0) (eC (.int 10))) (aCons (eBin (bop .Sub) (eVar 1) (eC (.int 1))) aNil))) (gTp (gCons (gNm 0) (gCons (gNm 1) gNil))))
    sNext)
    sNext)
  sNext) env S := rfl
def m_law_own (cf : Cf) : DS :=
  (sSeq (sForR (eC (.int 0)) (eVar 1) (gNm 2)
    (w_law_own_0 cf))
  (sSeq (sRet (eTup (aCons (eVar 0) (aCons (eVar 1) aNil))))
  sNext))
theorem b_law_own (cf : Cf) : dBlk (dS pd.pol cf 100 20 f_law_own.s) f_law_own.d.body = m_law_own cf := by kernel_rfl
def m_law_same (cf : Cf) : DS :=
  (sSeq (sIf (tO (tNt (tOf (eIsi pd.pol.own ["Worth"] (eVar 0)))) (tOf (eIsi pd.pol.own ["bool"] (eFld pd.pol.fld "units" (eVar 0)))))
    (sSeq (sRet (eC (.bl false)))
    sNext)
    sNext)
  (sSeq (sRet (eBin (cop .Eq) (eTup (aCons (eFld pd.pol.fld "units" (eVar 0)) (aCons (eFld pd.pol.fld "scale" (eVar 0)) aNil))) (eCall cf false ("_law_own", none) 2 ([] : List D) (aCons (eVar 1) (aCons (eVar 2) aNil)))))
  sNext))
theorem b_law_same (cf : Cf) : dBlk (dS pd.pol cf 100 20 f_law_same.s) f_law_same.d.body = m_law_same cf := by kernel_rfl
def m_law_units (cf : Cf) : DS :=
  (sSeq (sAsg (eTup (aCons (eBin (bop .Mult) (eCall cf true ("_law_signed", none) 2 ([] : List D) (aCons (eVar 0) (aCons (eVar 2) aNil))) (eVar 1)) (aCons (eCall cf true ("_law_draw", none) 2 ([] : List D) (aCons (eVar 0) (aCons (eC (.int 9)) aNil))) aNil))) (gTp (gCons (gNm 3) (gCons (gNm 4) gNil))))
  (sSeq (sAsg (eBin (bop .FloorDiv) (eVar 1) (eC (.int 2))) (gNm 5))
  (sSeq (sIf (tOf (eBin (cop .Eq) (eVar 4) (eC (.int 8))))
    (sSeq (sRet (eBin (bop .Add) (eVar 3) (eCall cf true ("_law_draw", none) 2 ([] : List D) (aCons (eVar 0) (aCons (eVar 1) aNil)))))
    sNext)
    sNext)
  (sSeq (sAsg (eBin ixD (eLst (aCons (eC (.int 0)) (aCons (eVar 5) (aCons (eVar 5) (aCons (eVar 5) (aCons (eBin (bop .Sub) (eVar 5) (eBi "int" (aCons (eBin (cop .Gt) (eVar 1) (eC (.int 2))) aNil))) (aCons (eBi "min" (aCons (eBin (bop .Add) (eVar 5) (eC (.int 1))) (aCons (eBin (bop .Sub) (eVar 1) (eC (.int 1))) aNil))) (aCons (eBin (bop .Sub) (eVar 1) (eC (.int 1))) (aCons (eBi "min" (aCons (eC (.int 1)) (aCons (eBin (bop .Sub) (eVar 1) (eC (.int 1))) aNil))) aNil))))))))) (eVar 4)) (gNm 6))
  (sSeq (sRet (eBin (bop .Add) (eVar 3) (eVar 6)))
  sNext)))))
theorem b_law_units (cf : Cf) : dBlk (dS pd.pol cf 100 20 f_law_units.s) f_law_units.d.body = m_law_units cf := by kernel_rfl
def w_law_run_0 (cf : Cf) : DS :=
  (sSeq (sAsg (eCall cf false ("_law_rounded", none) 3 ([] : List D) (aCons (eBin (bop .Add) (eBin (bop .Mult) (eVar 3) (eVar 1)) (eVar 4)) (aCons (eVar 1) (aCons (eVar 2) aNil)))) (gNm 3))
  sNext)
theorem w_law_run_0_K (cf : Cf) (env : Ev) (S : Sto) : w_law_run_0 cf env S = (sSeq (sAsg (eCall cf false ("_law_rounded", none) 3 ([] : List D) (aCons (eBin (bop .Add) (eBin (bop .Mult) (eVar 3) (eVar 1)) (eVar 4)) (aCons (eVar 1) (aCons (eVar 2) aNil)))) (gNm 3))
  sNext) env S := rfl
def m_law_run (cf : Cf) : DS :=
  (sSeq (sAsg (eC (.int 0)) (gNm 3))
  (sSeq (sFor (eVar 0) (gNm 4)
    (w_law_run_0 cf))
  (sSeq (sRet (eVar 3))
  sNext)))
theorem b_law_run (cf : Cf) : dBlk (dS pd.pol cf 100 20 f_law_run.s) f_law_run.d.body = m_law_run cf := by kernel_rfl
def m_law_at (cf : Cf) : DS :=
  (sSeq (sIf (tO (tNt (tOf (eIsi pd.pol.own ["Worth"] (eVar 0)))) (tOf (eBin (cop .Gt) (eFld pd.pol.fld "scale" (eVar 0)) (eVar 1))))
    (sSeq (sRet (eC .non))
    sNext)
    sNext)
  (sSeq (sRet (eBin (bop .Mult) (eFld pd.pol.fld "units" (eVar 0)) (eCall cf false ("_law_tens", none) 1 ([] : List D) (aCons (eBin (bop .Sub) (eVar 1) (eFld pd.pol.fld "scale" (eVar 0))) aNil))))
  sNext))
theorem b_law_at (cf : Cf) : dBlk (dS pd.pol cf 100 20 f_law_at.s) f_law_at.d.body = m_law_at cf := by kernel_rfl
def w_law_small_right_0 (cf : Cf) : DS :=
  (sSeq (sAsg (eTup (aCons (eCall cf true ("_law_units", none) 3 ([] : List D) (aCons (eVar 0) (aCons (eVar 1) (aCons (eC (.int 28)) aNil)))) (aCons (eCall cf true ("_law_draw", none) 2 ([] : List D) (aCons (eVar 0) (aCons (eC (.int 4)) aNil))) aNil))) (gTp (gCons (gNm 8) (gCons (gNm 9) gNil))))
  (sSeq (sAsg (eBin (bop .Add) (eVar 5) (eBin (bop .Mult) (eLst (aCons (eVar 8) aNil)) (eVar 9))) (gNm 5))
  (sSeq (sApp (eVar 6) (eTup (aCons (eMake cf "Worth" 2 ([(.int 0)] : List D) (aCons (eVar 8) (aCons (eVar 2) aNil))) (aCons (eVar 9) aNil))))
  sNext)))
theorem w_law_small_right_0_K (cf : Cf) (env : Ev) (S : Sto) : w_law_small_right_0 cf env S = (sSeq (sAsg (eTup (aCons (eCall cf true ("_law_units", none) 3 ([] : List D) (aCons (eVar 0) (aCons (eVar 1) (aCons (eC (.int 28)) aNil)))) (aCons (eCall cf true ("_law_draw", none) 2 ([] : List D) (aCons (eVar 0) (aCons (eC (.int 4)) aNil))) aNil))) (gTp (gCons (gNm 8) (gCons (gNm 9) gNil))))
  (sSeq (sAsg (eBin (bop .Add) (eVar 5) (eBin (bop .Mult) (eLst (aCons (eVar 8) aNil)) (eVar 9))) (gNm 5))
  (sSeq (sApp (eVar 6) (eTup (aCons (eMake cf "Worth" 2 ([(.int 0)] : List D) (aCons (eVar 8) (aCons (eVar 2) aNil))) (aCons (eVar 9) aNil))))
  sNext))) env S := rfl
def m_law_small_right (cf : Cf) : DS :=
  (sSeq (sAsg (eTup (aCons (eLst aNil) (aCons (mLst aNil) aNil))) (gTp (gCons (gNm 5) (gCons (gNm 6) gNil))))
  (sSeq (sForR (eC (.int 0)) (eCall cf true ("_law_draw", none) 2 ([] : List D) (aCons (eVar 0) (aCons (eC (.int 9)) aNil))) (gNm 7)
    (w_law_small_right_0 cf))
  (sSeq (sRet (eCall cf false ("_law_same", none) 3 ([] : List D) (aCons (eCall cf false ("running_total", none) 3 ([] : List D) (aCons (eVar 6) (aCons (eVar 3) (aCons (eVar 4) aNil)))) (aCons (eCall cf false ("_law_run", none) 3 ([] : List D) (aCons (eVar 5) (aCons (eVar 1) (aCons (eVar 4) aNil)))) (aCons (eVar 3) aNil)))))
  sNext)))
theorem b_law_small_right (cf : Cf) : dBlk (dS pd.pol cf 100 20 f_law_small_right.s) f_law_small_right.d.body = m_law_small_right cf := by kernel_rfl
def m_law_many (cf : Cf) : DS :=
  (sSeq (sAsg (eCall cf true ("_law_draw", none) 2 ([] : List D) (aCons (eVar 0) (aCons (eC (.int 3)) aNil))) (gNm 3))
  (sSeq (sIf (tOf (eBin (cop .Eq) (eVar 3) (eC (.int 0))))
    (sSeq (sRet (eCall cf true ("_law_draw", none) 2 ([] : List D) (aCons (eVar 0) (aCons (eC (.int 10)) aNil))))
    sNext)
    sNext)
  (sSeq (sIf (tOf (eBin (cop .Eq) (eVar 3) (eC (.int 1))))
    (sSeq (sRet (eCall cf true ("_law_great", none) 2 ([] : List D) (aCons (eVar 0) (aCons (eC (.int 56)) aNil))))
    sNext)
    sNext)
  (sSeq (sRet (eBi "max" (aCons (eC (.int 0)) (aCons (eBin (bop .Sub) (eBin (bop .Add) (eBin (bop .FloorDiv) (eBi "abs" (aCons (eVar 1) aNil)) (eBi "max" (aCons (eC (.int 1)) (aCons (eBi "abs" (aCons (eVar 2) aNil)) aNil)))) (eCall cf true ("_law_draw", none) 2 ([] : List D) (aCons (eVar 0) (aCons (eC (.int 7)) aNil)))) (eC (.int 3))) aNil))))
  sNext))))
theorem b_law_many (cf : Cf) : dBlk (dS pd.pol cf 100 20 f_law_many.s) f_law_many.d.body = m_law_many cf := by kernel_rfl
def w_law_long_right_0 (cf : Cf) : DS :=
  (sSeq (sAsg (eCall cf false ("_law_rounded", none) 3 ([] : List D) (aCons (eBin (bop .Add) (eBin (bop .Mult) (eVar 12) (eVar 1)) (eVar 6)) (aCons (eVar 1) (aCons (eVar 4) aNil)))) (gNm 12))
  sNext)
theorem w_law_long_right_0_K (cf : Cf) (env : Ev) (S : Sto) : w_law_long_right_0 cf env S = (sSeq (sAsg (eCall cf false ("_law_rounded", none) 3 ([] : List D) (aCons (eBin (bop .Add) (eBin (bop .Mult) (eVar 12) (eVar 1)) (eVar 6)) (aCons (eVar 1) (aCons (eVar 4) aNil)))) (gNm 12))
  sNext) env S := rfl
def m_law_long_right (cf : Cf) : DS :=
  (sSeq (sAsg (eTup (aCons (eCall cf true ("_law_units", none) 3 ([] : List D) (aCons (eVar 0) (aCons (eVar 1) (aCons (eC (.int 28)) aNil)))) (aCons (eCall cf true ("_law_units", none) 3 ([] : List D) (aCons (eVar 0) (aCons (eVar 1) (aCons (eC (.int 7)) aNil)))) aNil))) (gTp (gCons (gNm 5) (gCons (gNm 6) gNil))))
  (sSeq (sIf (tOf (eBin (cop .Gt) (eCall cf true ("_law_draw", none) 2 ([] : List D) (aCons (eVar 0) (aCons (eC (.int 3)) aNil))) (eC (.int 0))))
    (sSeq (sAsg (eIf (tOf (eBin (cop .Lt) (eVar 6) (eC (.int 0)))) (eBi "abs" (aCons (eVar 5) aNil)) (eNeg (eBi "abs" (aCons (eVar 5) aNil)))) (gNm 5))
    sNext)
    sNext)
  (sSeq (sAsg (eTup (aCons (eCall cf true ("_law_many", none) 3 ([] : List D) (aCons (eVar 0) (aCons (eVar 5) (aCons (eVar 6) aNil)))) (aCons (eCall cf true ("_law_draw", none) 2 ([] : List D) (aCons (eVar 0) (aCons (eC (.int 12)) aNil))) aNil))) (gTp (gCons (gNm 7) (gCons (gNm 8) gNil))))
  (sSeq (sAsg (eTup (aCons (eTup (aCons (eMake cf "Worth" 2 ([(.int 0)] : List D) (aCons (eVar 5) (aCons (eVar 2) aNil))) (aCons (eC (.int 1)) aNil))) (aCons (eMake cf "Worth" 2 ([(.int 0)] : List D) (aCons (eVar 6) (aCons (eVar 2) aNil))) aNil))) (gTp (gCons (gNm 9) (gCons (gNm 10) gNil))))
  (sSeq (sAsg (eCall cf false ("running_total", none) 3 ([] : List D) (aCons (eLst (aCons (eVar 9) (aCons (eTup (aCons (eVar 10) (aCons (eVar 7) aNil))) aNil))) (aCons (eVar 3) (aCons (eVar 4) aNil)))) (gNm 11))
  (sSeq (sAsg (eCall cf false ("_law_at", none) 2 ([] : List D) (aCons (eVar 11) (aCons (eVar 3) aNil))) (gNm 12))
  (sSeq (sIf (tOf (eBin (cop .Is) (eVar 12) (eC .non)))
    (sSeq (sRet (eC (.bl false)))
    sNext)
    sNext)
  (sSeq (sAsg (eCall cf false ("_law_rounded", none) 3 ([] : List D) (aCons (eBin (bop .Add) (eBin (bop .Mult) (eVar 12) (eVar 1)) (eVar 6)) (aCons (eVar 1) (aCons (eVar 4) aNil)))) (gNm 13))
  (sSeq (sIf (tNt (tOf (eCall cf false ("_law_same", none) 3 ([] : List D) (aCons (eCall cf false ("running_total", none) 3 ([] : List D) (aCons (eLst (aCons (eVar 9) (aCons (eTup (aCons (eVar 10) (aCons (eBin (bop .Add) (eVar 7) (eC (.int 1))) aNil))) aNil))) (aCons (eVar 3) (aCons (eVar 4) aNil)))) (aCons (eVar 13) (aCons (eVar 3) aNil))))))
    (sSeq (sRet (eC (.bl false)))
    sNext)
    sNext)
  (sSeq (sIf (tNt (tOf (eCall cf false ("_law_same", none) 3 ([] : List D) (aCons (eCall cf false ("running_total", none) 3 ([] : List D) (aCons (eLst (aCons (eVar 9) (aCons (eTup (aCons (eVar 10) (aCons (eVar 7) aNil))) (aCons (eTup (aCons (eVar 10) (aCons (eC (.int 1)) aNil))) aNil)))) (aCons (eVar 3) (aCons (eVar 4) aNil)))) (aCons (eVar 13) (aCons (eVar 3) aNil))))))
    (sSeq (sRet (eC (.bl false)))
    sNext)
    sNext)
  (sSeq (sAsg (eCall cf false ("running_total", none) 3 ([] : List D) (aCons (eLst (aCons (eVar 9) (aCons (eTup (aCons (eVar 10) (aCons (eBin (bop .Add) (eVar 7) (eVar 8)) aNil))) aNil))) (aCons (eVar 3) (aCons (eVar 4) aNil)))) (gNm 14))
  (sSeq (sAsg (eCall cf false ("running_total", none) 3 ([] : List D) (aCons (eLst (aCons (eVar 9) (aCons (eTup (aCons (eVar 10) (aCons (eVar 8) aNil))) (aCons (eTup (aCons (eMake cf "Worth" 2 ([(.int 0)] : List D) (aCons (eC (.int 0)) aNil)) (aCons (eVar 8) aNil))) (aCons (eTup (aCons (eVar 10) (aCons (eVar 7) aNil))) aNil))))) (aCons (eVar 3) (aCons (eVar 4) aNil)))) (gNm 15))
  (sSeq (sAsg (eCall cf false ("_law_at", none) 2 ([] : List D) (aCons (eVar 14) (aCons (eVar 3) aNil))) (gNm 16))
  (sSeq (sIf (tO (tOf (eBin (cop .Is) (eVar 16) (eC .non))) (tNt (tOf (eCall cf false ("_law_same", none) 3 ([] : List D) (aCons (eVar 15) (aCons (eVar 16) (aCons (eVar 3) aNil)))))))
    (sSeq (sRet (eC (.bl false)))
    sNext)
    sNext)
  (sSeq (sForR (eC (.int 0)) (eVar 8) (gNm 17)
    (w_law_long_right_0 cf))
  (sSeq (sRet (eBin (cop .Eq) (eVar 12) (eVar 16)))
  sNext))))))))))))))))
theorem b_law_long_right (cf : Cf) : dBlk (dS pd.pol cf 100 20 f_law_long_right.s) f_law_long_right.d.body = m_law_long_right cf := by kernel_rfl
def w_law_0 (cf : Cf) : DS :=
  (sSeq (sAsg (eCall cf true ("_law_pick", none) 2 ([] : List D) (aCons (eVar 1) (aCons (eCall cf false ("_law_ways", none) 0 ([] : List D) aNil) aNil))) (gNm 8))
  (sSeq (sIf (tNt (tOf (eCall cf true ("_law_small_right", none) 5 ([] : List D) (aCons (eVar 1) (aCons (eVar 5) (aCons (eVar 6) (aCons (eVar 3) (aCons (eVar 8) aNil))))))))
    (sSeq (sRet (eC (.bl false)))
    sNext)
    sNext)
  (sSeq (sIf (tNt (tOf (eCall cf true ("_law_long_right", none) 5 ([] : List D) (aCons (eVar 1) (aCons (eVar 5) (aCons (eVar 6) (aCons (eVar 3) (aCons (eVar 8) aNil))))))))
    (sSeq (sRet (eC (.bl false)))
    sNext)
    sNext)
  sNext)))
theorem w_law_0_K (cf : Cf) (env : Ev) (S : Sto) : w_law_0 cf env S = (sSeq (sAsg (eCall cf true ("_law_pick", none) 2 ([] : List D) (aCons (eVar 1) (aCons (eCall cf false ("_law_ways", none) 0 ([] : List D) aNil) aNil))) (gNm 8))
  (sSeq (sIf (tNt (tOf (eCall cf true ("_law_small_right", none) 5 ([] : List D) (aCons (eVar 1) (aCons (eVar 5) (aCons (eVar 6) (aCons (eVar 3) (aCons (eVar 8) aNil))))))))
    (sSeq (sRet (eC (.bl false)))
    sNext)
    sNext)
  (sSeq (sIf (tNt (tOf (eCall cf true ("_law_long_right", none) 5 ([] : List D) (aCons (eVar 1) (aCons (eVar 5) (aCons (eVar 6) (aCons (eVar 3) (aCons (eVar 8) aNil))))))))
    (sSeq (sRet (eC (.bl false)))
    sNext)
    sNext)
  sNext))) env S := rfl
def w_law_1 (cf : Cf) : DS :=
  (sSeq (sAsg (eTup (aCons (eCall cf true ("_law_draw", none) 2 ([] : List D) (aCons (eVar 1) (aCons (eC (.int 4)) aNil))) (aCons (eCall cf true ("_law_draw", none) 2 ([] : List D) (aCons (eVar 1) (aCons (eC (.int 4)) aNil))) aNil))) (gTp (gCons (gNm 3) (gCons (gNm 4) gNil))))
  (sSeq (sAsg (eTup (aCons (eCall cf false ("_law_tens", none) 1 ([] : List D) (aCons (eVar 4) aNil)) (aCons (eBin (bop .Add) (eVar 3) (eVar 4)) aNil))) (gTp (gCons (gNm 5) (gCons (gNm 6) gNil))))
  (sSeq (sForR (eC (.int 0)) (eC (.int 2)) (gNm 7)
    (w_law_0 cf))
  (sSeq (sIf (tNt (tOf (eCall cf false ("_law_same", none) 3 ([] : List D) (aCons (eCall cf false ("running_total", none) 3 ([] : List D) (aCons (eLst aNil) (aCons (eVar 3) (aCons (eVar 8) aNil)))) (aCons (eC (.int 0)) (aCons (eC (.int 0)) aNil))))))
    (sSeq (sRet (eC (.bl false)))
    sNext)
    sNext)
  sNext))))
theorem w_law_1_K (cf : Cf) (env : Ev) (S : Sto) : w_law_1 cf env S = (sSeq (sAsg (eTup (aCons (eCall cf true ("_law_draw", none) 2 ([] : List D) (aCons (eVar 1) (aCons (eC (.int 4)) aNil))) (aCons (eCall cf true ("_law_draw", none) 2 ([] : List D) (aCons (eVar 1) (aCons (eC (.int 4)) aNil))) aNil))) (gTp (gCons (gNm 3) (gCons (gNm 4) gNil))))
  (sSeq (sAsg (eTup (aCons (eCall cf false ("_law_tens", none) 1 ([] : List D) (aCons (eVar 4) aNil)) (aCons (eBin (bop .Add) (eVar 3) (eVar 4)) aNil))) (gTp (gCons (gNm 5) (gCons (gNm 6) gNil))))
  (sSeq (sForR (eC (.int 0)) (eC (.int 2)) (gNm 7)
    (w_law_0 cf))
  (sSeq (sIf (tNt (tOf (eCall cf false ("_law_same", none) 3 ([] : List D) (aCons (eCall cf false ("running_total", none) 3 ([] : List D) (aCons (eLst aNil) (aCons (eVar 3) (aCons (eVar 8) aNil)))) (aCons (eC (.int 0)) (aCons (eC (.int 0)) aNil))))))
    (sSeq (sRet (eC (.bl false)))
    sNext)
    sNext)
  sNext)))) env S := rfl
def m_law (cf : Cf) : DS :=
  (sSeq (sAsg (eCall cf false ("_law_pen", none) 1 ([] : List D) (aCons (eVar 0) aNil)) (gNm 1))
  (sSeq (sForR (eC (.int 0)) (eBin (bop .Add) (eC (.int 3)) (eBi "min" (aCons (eC (.int 5)) (aCons (eBi "len" (aCons (eVar 0) aNil)) aNil)))) (gNm 2)
    (w_law_1 cf))
  (sSeq (sRet (eC (.bl true)))
  sNext)))
theorem b_law (cf : Cf) : dBlk (dS pd.pol cf 100 20 f_law.s) f_law.d.body = m_law cf := by kernel_rfl
abbrev C (n : Nat) : Cf := callF pd.pol pd.at 100 20 n
theorem s_ten_to {n : Nat} (hn : 1 ≤ n) (xs : List D) (S : Sto) : C n ("ten_to", none) xs S = fin false S.length (m_ten_to (C (n - 1)) (startD ["number", "made", "base"] xs) S) := (callF_step (f := f_ten_to) (by kernel_rfl) b_ten_to hn xs S).trans (by kernel_rfl)
theorem s_is_integer {n : Nat} (hn : 1 ≤ n) (xs : List D) (S : Sto) : C n ("is_integer", none) xs S = fin false S.length (m_is_integer (C (n - 1)) (startD ["value"] xs) S) := (callF_step (f := f_is_integer) (by kernel_rfl) b_is_integer hn xs S).trans (by kernel_rfl)
theorem s_is_whole {n : Nat} (hn : 1 ≤ n) (xs : List D) (S : Sto) : C n ("is_whole", none) xs S = fin false S.length (m_is_whole (C (n - 1)) (startD ["value"] xs) S) := (callF_step (f := f_is_whole) (by kernel_rfl) b_is_whole hn xs S).trans (by kernel_rfl)
theorem s_need_integer {n : Nat} (hn : 1 ≤ n) (xs : List D) (S : Sto) : C n ("need_integer", none) xs S = fin false S.length (m_need_integer (C (n - 1)) (startD ["value"] xs) S) := (callF_step (f := f_need_integer) (by kernel_rfl) b_need_integer hn xs S).trans (by kernel_rfl)
theorem s_need_whole {n : Nat} (hn : 1 ≤ n) (xs : List D) (S : Sto) : C n ("need_whole", none) xs S = fin false S.length (m_need_whole (C (n - 1)) (startD ["value"] xs) S) := (callF_step (f := f_need_whole) (by kernel_rfl) b_need_whole hn xs S).trans (by kernel_rfl)
theorem s_lowered {n : Nat} (hn : 1 ≤ n) (xs : List D) (S : Sto) : C n ("lowered", none) xs S = fin false S.length (m_lowered (C (n - 1)) (startD ["units", "scale"] xs) S) := (callF_step (f := f_lowered) (by kernel_rfl) b_lowered hn xs S).trans (by kernel_rfl)
theorem s_Worth_init {n : Nat} (hn : 1 ≤ n) (xs : List D) (S : Sto) : C n ("Worth", some "__init__") xs S = fin false S.length (m_Worth_init (C (n - 1)) (startD ["self", "units", "scale"] xs) S) := (callF_step (f := f_Worth_init) (by kernel_rfl) b_Worth_init hn xs S).trans (by kernel_rfl)
theorem s_Worth_units_at {n : Nat} (hn : 1 ≤ n) (xs : List D) (S : Sto) : C n ("Worth", some "units_at") xs S = fin false S.length (m_Worth_units_at (C (n - 1)) (startD ["self", "scale"] xs) S) := (callF_step (f := f_Worth_units_at) (by kernel_rfl) b_Worth_units_at hn xs S).trans (by kernel_rfl)
theorem s_need_way {n : Nat} (hn : 1 ≤ n) (xs : List D) (S : Sto) : C n ("need_way", none) xs S = fin false S.length (m_need_way (C (n - 1)) (startD ["value"] xs) S) := (callF_step (f := f_need_way) (by kernel_rfl) b_need_way hn xs S).trans (by kernel_rfl)
theorem s_lift {n : Nat} (hn : 1 ≤ n) (xs : List D) (S : Sto) : C n ("lift", none) xs S = fin false S.length (m_lift (C (n - 1)) (startD ["way", "part", "negative", "odd", "ties"] xs) S) := (callF_step (f := f_lift) (by kernel_rfl) b_lift hn xs S).trans (by kernel_rfl)
theorem s_part_of {n : Nat} (hn : 1 ≤ n) (xs : List D) (S : Sto) : C n ("part_of", none) xs S = fin false S.length (m_part_of (C (n - 1)) (startD ["left", "divisor"] xs) S) := (callF_step (f := f_part_of) (by kernel_rfl) b_part_of hn xs S).trans (by kernel_rfl)
theorem s_divided_by {n : Nat} (hn : 1 ≤ n) (xs : List D) (S : Sto) : C n ("divided_by", none) xs S = fin false S.length (m_divided_by (C (n - 1)) (startD ["number", "divisor", "way", "low", "left"] xs) S) := (callF_step (f := f_divided_by) (by kernel_rfl) b_divided_by hn xs S).trans (by kernel_rfl)
theorem s_divided {n : Nat} (hn : 1 ≤ n) (xs : List D) (S : Sto) : C n ("divided", none) xs S = fin false S.length (m_divided (C (n - 1)) (startD ["number", "divisor", "way"] xs) S) := (callF_step (f := f_divided) (by kernel_rfl) b_divided hn xs S).trans (by kernel_rfl)
theorem s_is_entry {n : Nat} (hn : 1 ≤ n) (xs : List D) (S : Sto) : C n ("is_entry", none) xs S = fin false S.length (m_is_entry (C (n - 1)) (startD ["value"] xs) S) := (callF_step (f := f_is_entry) (by kernel_rfl) b_is_entry hn xs S).trans (by kernel_rfl)
theorem s_need_entries {n : Nat} (hn : 1 ≤ n) (xs : List D) (S : Sto) : C n ("need_entries", none) xs S = fin false S.length (m_need_entries (C (n - 1)) (startD ["entries", "index", "entry"] xs) S) := (callF_step (f := f_need_entries) (by kernel_rfl) b_need_entries hn xs S).trans (by kernel_rfl)
theorem s_need_scale_and_way {n : Nat} (hn : 1 ≤ n) (xs : List D) (S : Sto) : C n ("need_scale_and_way", none) xs S = fin false S.length (m_need_scale_and_way (C (n - 1)) (startD ["scale", "way"] xs) S) := (callF_step (f := f_need_scale_and_way) (by kernel_rfl) b_need_scale_and_way hn xs S).trans (by kernel_rfl)
theorem s_split_worth {n : Nat} (hn : 1 ≤ n) (xs : List D) (S : Sto) : C n ("split_worth", none) xs S = fin false S.length (m_split_worth (C (n - 1)) (startD ["worth", "scale", "unit", "units", "floor"] xs) S) := (callF_step (f := f_split_worth) (by kernel_rfl) b_split_worth hn xs S).trans (by kernel_rfl)
theorem s_is_loose {n : Nat} (hn : 1 ≤ n) (xs : List D) (S : Sto) : C n ("is_loose", none) xs S = fin false S.length (m_is_loose (C (n - 1)) (startD ["remainder", "unit", "way"] xs) S) := (callF_step (f := f_is_loose) (by kernel_rfl) b_is_loose hn xs S).trans (by kernel_rfl)
theorem s_alone {n : Nat} (hn : 1 ≤ n) (xs : List D) (S : Sto) : C n ("alone", none) xs S = fin false S.length (m_alone (C (n - 1)) (startD ["floor", "remainder", "unit", "way"] xs) S) := (callF_step (f := f_alone) (by kernel_rfl) b_alone hn xs S).trans (by kernel_rfl)
theorem s_drifted {n : Nat} (hn : 1 ≤ n) (xs : List D) (S : Sto) : C n ("drifted", none) xs S = fin false S.length (m_drifted (C (n - 1)) (startD ["state", "floor", "times", "above", "below", "first", "last", "turns"] xs) S) := (callF_step (f := f_drifted) (by kernel_rfl) b_drifted hn xs S).trans (by kernel_rfl)
theorem s_added {n : Nat} (hn : 1 ≤ n) (xs : List D) (S : Sto) : C n ("added", none) xs S = fin false S.length (m_added (C (n - 1)) (startD ["state", "parts", "times", "way", "floor", "remainder", "unit", "first"] xs) S) := (callF_step (f := f_added) (by kernel_rfl) b_added hn xs S).trans (by kernel_rfl)
theorem s_run_through {n : Nat} (hn : 1 ≤ n) (xs : List D) (S : Sto) : C n ("run_through", none) xs S = fin false S.length (m_run_through (C (n - 1)) (startD ["entries", "scale", "way", "state", "worth", "times"] xs) S) := (callF_step (f := f_run_through) (by kernel_rfl) b_run_through hn xs S).trans (by kernel_rfl)
theorem s_running_total {n : Nat} (hn : 1 ≤ n) (xs : List D) (S : Sto) : C n ("running_total", none) xs S = fin false S.length (m_running_total (C (n - 1)) (startD ["entries", "scale", "way"] xs) S) := (callF_step (f := f_running_total) (by kernel_rfl) b_running_total hn xs S).trans (by kernel_rfl)
theorem s_law_pen {n : Nat} (hn : 1 ≤ n) (xs : List D) (S : Sto) : C n ("_law_pen", none) xs S = fin true S.length (m_law_pen (C (n - 1)) (startD ["_law_script"] xs) S) := (callF_step (f := f_law_pen) (by kernel_rfl) b_law_pen hn xs S).trans (by kernel_rfl)
theorem s_law_draw {n : Nat} (hn : 1 ≤ n) (xs : List D) (S : Sto) : C n ("_law_draw", none) xs S = fin false S.length (m_law_draw (C (n - 1)) (startD ["_law_pen_here", "_law_span", "_law_digit", "_law_at_here", "_law_cell", "_law_mash"] xs) S) := (callF_step (f := f_law_draw) (by kernel_rfl) b_law_draw hn xs S).trans (by kernel_rfl)
theorem s_law_pick {n : Nat} (hn : 1 ≤ n) (xs : List D) (S : Sto) : C n ("_law_pick", none) xs S = fin false S.length (m_law_pick (C (n - 1)) (startD ["_law_pen_here", "_law_menu"] xs) S) := (callF_step (f := f_law_pick) (by kernel_rfl) b_law_pick hn xs S).trans (by kernel_rfl)
theorem s_law_great {n : Nat} (hn : 1 ≤ n) (xs : List D) (S : Sto) : C n ("_law_great", none) xs S = fin false S.length (m_law_great (C (n - 1)) (startD ["_law_pen_here", "_law_figures", "_law_found", "_law_go"] xs) S) := (callF_step (f := f_law_great) (by kernel_rfl) b_law_great hn xs S).trans (by kernel_rfl)
theorem s_law_signed {n : Nat} (hn : 1 ≤ n) (xs : List D) (S : Sto) : C n ("_law_signed", none) xs S = fin false S.length (m_law_signed (C (n - 1)) (startD ["_law_pen_here", "_law_figures", "_law_found"] xs) S) := (callF_step (f := f_law_signed) (by kernel_rfl) b_law_signed hn xs S).trans (by kernel_rfl)
theorem s_law_ways {n : Nat} (hn : 1 ≤ n) (xs : List D) (S : Sto) : C n ("_law_ways", none) xs S = fin false S.length (m_law_ways (C (n - 1)) (startD [] xs) S) := (callF_step (f := f_law_ways) (by kernel_rfl) b_law_ways hn xs S).trans (by kernel_rfl)
theorem s_law_tens {n : Nat} (hn : 1 ≤ n) (xs : List D) (S : Sto) : C n ("_law_tens", none) xs S = fin false S.length (m_law_tens (C (n - 1)) (startD ["_law_count", "_law_found", "_law_go"] xs) S) := (callF_step (f := f_law_tens) (by kernel_rfl) b_law_tens hn xs S).trans (by kernel_rfl)
theorem s_law_rounded {n : Nat} (hn : 1 ≤ n) (xs : List D) (S : Sto) : C n ("_law_rounded", none) xs S = fin false S.length (m_law_rounded (C (n - 1)) (startD ["_law_number", "_law_unit", "_law_way", "_law_floor", "_law_left"] xs) S) := (callF_step (f := f_law_rounded) (by kernel_rfl) b_law_rounded hn xs S).trans (by kernel_rfl)
theorem s_law_own {n : Nat} (hn : 1 ≤ n) (xs : List D) (S : Sto) : C n ("_law_own", none) xs S = fin false S.length (m_law_own (C (n - 1)) (startD ["_law_units_here", "_law_scale", "_law_go"] xs) S) := (callF_step (f := f_law_own) (by kernel_rfl) b_law_own hn xs S).trans (by kernel_rfl)
theorem s_law_same {n : Nat} (hn : 1 ≤ n) (xs : List D) (S : Sto) : C n ("_law_same", none) xs S = fin false S.length (m_law_same (C (n - 1)) (startD ["_law_worth", "_law_units_here", "_law_scale"] xs) S) := (callF_step (f := f_law_same) (by kernel_rfl) b_law_same hn xs S).trans (by kernel_rfl)
theorem s_law_units {n : Nat} (hn : 1 ≤ n) (xs : List D) (S : Sto) : C n ("_law_units", none) xs S = fin false S.length (m_law_units (C (n - 1)) (startD ["_law_pen_here", "_law_unit", "_law_figures", "_law_floor", "_law_path", "_law_half", "_law_part"] xs) S) := (callF_step (f := f_law_units) (by kernel_rfl) b_law_units hn xs S).trans (by kernel_rfl)
theorem s_law_run {n : Nat} (hn : 1 ≤ n) (xs : List D) (S : Sto) : C n ("_law_run", none) xs S = fin false S.length (m_law_run (C (n - 1)) (startD ["_law_row", "_law_unit", "_law_way", "_law_state", "_law_one"] xs) S) := (callF_step (f := f_law_run) (by kernel_rfl) b_law_run hn xs S).trans (by kernel_rfl)
theorem s_law_at {n : Nat} (hn : 1 ≤ n) (xs : List D) (S : Sto) : C n ("_law_at", none) xs S = fin false S.length (m_law_at (C (n - 1)) (startD ["_law_worth", "_law_scale"] xs) S) := (callF_step (f := f_law_at) (by kernel_rfl) b_law_at hn xs S).trans (by kernel_rfl)
theorem s_law_small_right {n : Nat} (hn : 1 ≤ n) (xs : List D) (S : Sto) : C n ("_law_small_right", none) xs S = fin false S.length (m_law_small_right (C (n - 1)) (startD ["_law_pen_here", "_law_unit", "_law_deep", "_law_scale", "_law_way", "_law_row", "_law_entries", "_law_go", "_law_one", "_law_times"] xs) S) := (callF_step (f := f_law_small_right) (by kernel_rfl) b_law_small_right hn xs S).trans (by kernel_rfl)
theorem s_law_many {n : Nat} (hn : 1 ≤ n) (xs : List D) (S : Sto) : C n ("_law_many", none) xs S = fin false S.length (m_law_many (C (n - 1)) (startD ["_law_pen_here", "_law_start", "_law_one", "_law_path"] xs) S) := (callF_step (f := f_law_many) (by kernel_rfl) b_law_many hn xs S).trans (by kernel_rfl)
theorem s_law_long_right {n : Nat} (hn : 1 ≤ n) (xs : List D) (S : Sto) : C n ("_law_long_right", none) xs S = fin false S.length (m_law_long_right (C (n - 1)) (startD ["_law_pen_here", "_law_unit", "_law_deep", "_law_scale", "_law_way", "_law_start", "_law_one", "_law_many_here", "_law_split", "_law_begin", "_law_worth", "_law_told", "_law_state", "_law_step", "_law_more", "_law_shared", "_law_last", "_law_go"] xs) S) := (callF_step (f := f_law_long_right) (by kernel_rfl) b_law_long_right hn xs S).trans (by kernel_rfl)
theorem s_law {n : Nat} (hn : 1 ≤ n) (xs : List D) (S : Sto) : C n ("law", none) xs S = fin false S.length (m_law (C (n - 1)) (startD ["_law_script", "_law_pen_here", "_law_lap", "_law_scale", "_law_places", "_law_unit", "_law_deep", "_law_go", "_law_way"] xs) S) := (callF_step (f := f_law) (by kernel_rfl) b_law hn xs S).trans (by kernel_rfl)
end K49

set_option Elab.async false
set_option linter.all false
set_option maxRecDepth 100000
set_option maxHeartbeats 1000000
/-! Pv, part P: the evaluator's steps as rewriting rules: each goes on only where the value ahead of it is known. -/
namespace Pv
open PySem L2
open PyProof.Rows hiding St
section
variable {α β : Type} {env env' : Ev} {S S1 S2 : Sto} {a b : DE} {t u : DT} {r : DA} {x y d : D} {xs ds : List D} {f : Sto → D → D → Option D} {cf : Cf} {g : DG} {s1 s2 : DS}
/-! known results -/
@[simp] theorem opt_some {z : α} : opt (some z) S = .ok z S := rfl
@[simp] theorem bind_ok {z : α} {k : α → Sto → Res β} : (Res.ok z S).bind k = k z S := rfl
@[simp] theorem eC_ok : eC d env S = .ok d S := rfl
def varK (o : Option (Option D)) (S : Sto) : Res D := match o with
  | some (some d) => .ok d S
  | _ => .bad
@[simp] theorem eVar_K {i : Nat} : eVar i env S = varK env[i]? S := rfl
@[simp] theorem varK_ok : varK (some (some d)) S = .ok d S := rfl
def binK (f : Sto → D → D → Option D) (q : Res D) (b : DE) (env : Ev) : Res D := q.bind fun x S1 => (b env S1).bind fun y S2 => opt (f S2 x y) S2
def binK2 (f : Sto → D → D → Option D) (x : D) (q : Res D) : Res D := q.bind fun y S2 => opt (f S2 x y) S2
@[simp] theorem eBin_K : eBin f a b env S = binK f (a env S) b env := rfl
@[simp] theorem binK_ok : binK f (.ok x S) b env = binK2 f x (b env S) := rfl
@[simp] theorem binK2_ok : binK2 f x (.ok y S) = opt (f S x y) S := rfl
def negK (q : Res D) : Res D := q.bind fun x S1 => match x with
  | .int i => .ok (.int (-i)) S1
  | _ => .bad
@[simp] theorem eNeg_K : eNeg a env S = negK (a env S) := rfl
@[simp] theorem negK_ok {i : Int} : negK (.ok (.int i) S) = .ok (.int (-i)) S := rfl
def notK (q : Res D) : Res D := q.bind fun x S1 => (opt (truth S1 x) S1).bind fun b S2 => .ok (.bl (!b)) S2
def notK2 (o : Option Bool) (S : Sto) : Res D := (opt o S).bind fun b S2 => .ok (.bl (!b)) S2
@[simp] theorem eNot_K : eNot a env S = notK (a env S) := rfl
@[simp] theorem notK_ok : notK (.ok x S) = notK2 (truth S x) S := rfl
@[simp] theorem notK2_ok {k : Bool} : notK2 (some k) S = .ok (.bl (!k)) S := rfl
def andK (q : Res D) (b : DE) (env : Ev) : Res D := q.bind fun x S1 => (opt (truth S1 x) S1).bind fun k S2 => if k = true then b env S2 else .ok x S2
def andK2 (o : Option Bool) (x : D) (S : Sto) (b : DE) (env : Ev) : Res D := (opt o S).bind fun k S2 => if k = true then b env S2 else .ok x S2
@[simp] theorem eAnd_K : eAnd a b env S = andK (a env S) b env := rfl
@[simp] theorem andK_ok : andK (.ok x S) b env = andK2 (truth S x) x S b env := rfl
@[simp] theorem andK2_t : andK2 (some true) x S b env = b env S := rfl
@[simp] theorem andK2_f : andK2 (some false) x S b env = .ok x S := rfl
def orK (q : Res D) (b : DE) (env : Ev) : Res D := q.bind fun x S1 => (opt (truth S1 x) S1).bind fun k S2 => if k = true then .ok x S2 else b env S2
def orK2 (o : Option Bool) (x : D) (S : Sto) (b : DE) (env : Ev) : Res D := (opt o S).bind fun k S2 => if k = true then .ok x S2 else b env S2
@[simp] theorem eOr_K : eOr a b env S = orK (a env S) b env := rfl
@[simp] theorem orK_ok : orK (.ok x S) b env = orK2 (truth S x) x S b env := rfl
@[simp] theorem orK2_t : orK2 (some true) x S b env = .ok x S := rfl
@[simp] theorem orK2_f : orK2 (some false) x S b env = b env S := rfl
def eifK (q : Res Bool) (a b : DE) (env : Ev) : Res D := q.bind fun k S1 => if k = true then a env S1 else b env S1
@[simp] theorem eIf_K : eIf t a b env S = eifK (t env S) a b env := rfl
@[simp] theorem eifK_t : eifK (.ok true S) a b env = a env S := rfl
@[simp] theorem eifK_f : eifK (.ok false S) a b env = b env S := rfl
def tofK (q : Res D) : Res Bool := q.bind fun x S1 => opt (truth S1 x) S1
@[simp] theorem tOf_K : tOf a env S = tofK (a env S) := rfl
@[simp] theorem tofK_ok : tofK (.ok x S) = opt (truth S x) S := rfl
@[simp] theorem truth_bl {k : Bool} : truth S (.bl k) = some k := rfl
@[simp] theorem truth_int {i : Int} : truth S (.int i) = some (i != 0) := rfl
def tntK (q : Res Bool) : Res Bool := q.bind fun k S1 => .ok (!k) S1
@[simp] theorem tNt_K : tNt t env S = tntK (t env S) := rfl
@[simp] theorem tntK_ok {k : Bool} : tntK (.ok k S) = .ok (!k) S := rfl
def tanK (q : Res Bool) (u : DT) (env : Ev) : Res Bool := q.bind fun k S1 => if k = true then u env S1 else .ok false S1
@[simp] theorem tAn_K : tAn t u env S = tanK (t env S) u env := rfl
@[simp] theorem tanK_t : tanK (.ok true S) u env = u env S := rfl
@[simp] theorem tanK_f : tanK (.ok false S) u env = .ok false S := rfl
def torK (q : Res Bool) (u : DT) (env : Ev) : Res Bool := q.bind fun k S1 => if k = true then .ok true S1 else u env S1
@[simp] theorem tO_K : tO t u env S = torK (t env S) u env := rfl
@[simp] theorem torK_t : torK (.ok true S) u env = .ok true S := rfl
@[simp] theorem torK_f : torK (.ok false S) u env = u env S := rfl
@[simp] theorem aNil_ok : aNil env S = .ok [] S := rfl
def acK (q : Res D) (r : DA) (env : Ev) : Res (List D) := q.bind fun x S1 => (r env S1).bind fun xs S2 => .ok (x :: xs) S2
def acK2 (x : D) (q : Res (List D)) : Res (List D) := q.bind fun xs S2 => .ok (x :: xs) S2
@[simp] theorem aCons_K : aCons a r env S = acK (a env S) r env := rfl
@[simp] theorem acK_ok : acK (.ok x S) r env = acK2 x (r env S) := rfl
@[simp] theorem acK2_ok : acK2 x (.ok xs S) = .ok (x :: xs) S := rfl
def tupK (q : Res (List D)) : Res D := q.bind fun xs S1 => if xs.length ≤ sizeLine then .ok (.tup xs) S1 else .bad
def lstK (q : Res (List D)) : Res D := q.bind fun xs S1 => if xs.length ≤ sizeLine then .ok (.lst xs) S1 else .bad
def mlsK (q : Res (List D)) : Res D := q.bind fun xs S1 => if (decide (xs.length ≤ sizeLine) && noMus xs) = true then .ok (.mu S1.length) (S1 ++ [.lst xs]) else .bad
theorem small {n : Nat} (h : n ≤ 1000) : n ≤ sizeLine := by rw [sizeLine_eq]; omega
@[simp] theorem eTup_K : eTup r env S = tupK (r env S) := rfl
@[simp] theorem eLst_K : eLst r env S = lstK (r env S) := rfl
@[simp] theorem mLst_K : mLst r env S = mlsK (r env S) := rfl
@[simp] theorem tupK_ok (h : xs.length ≤ 1000) : tupK (.ok xs S) = .ok (.tup xs) S := if_pos (small h)
@[simp] theorem lstK_ok (h : xs.length ≤ 1000) : lstK (.ok xs S) = .ok (.lst xs) S := if_pos (small h)
@[simp] theorem mlsK_ok (h : xs.length ≤ 1000) (h' : noMus xs = true) : mlsK (.ok xs S) = .ok (.mu S.length) (S ++ [.lst xs]) := by
  show (if (decide (xs.length ≤ sizeLine) && noMus xs) = true then Res.ok (D.mu S.length) (S ++ [.lst xs]) else .bad) = _
  rw [if_pos (by rw [decide_eq_true (small h), h']; rfl)]
@[simp] theorem noMus_nil : noMus [] = true := rfl
@[simp] theorem noMus_cons : noMus (d :: ds) = (noMu d && noMus ds) := rfl
@[simp] theorem noMu_int {i : Int} : noMu (.int i) = true := rfl
@[simp] theorem noMu_bl {i : Bool} : noMu (.bl i) = true := rfl
@[simp] theorem noMu_str {i : Str} : noMu (.str i) = true := rfl
@[simp] theorem noMu_non : noMu .non = true := rfl
@[simp] theorem noMu_tup : noMu (.tup ds) = noMus ds := rfl
@[simp] theorem noMu_lst : noMu (.lst ds) = noMus ds := rfl
@[simp] theorem noMu_ins {c : Str} {fs : List (Str × D)} : noMu (.ins c fs) = noMuf fs := rfl
@[simp] theorem noMuf_nil : noMuf [] = true := rfl
@[simp] theorem noMuf_cons {x : Str} {fs : List (Str × D)} : noMuf ((x, d) :: fs) = (noMu d && noMuf fs) := rfl
def fldK (ok : Str → Str → Bool) (f : Str) (q : Res D) : Res D := q.bind fun x S1 => opt (fldD ok S1 f x) S1
@[simp] theorem eFld_K {ok : Str → Str → Bool} {f : Str} : eFld ok f a env S = fldK ok f (a env S) := rfl
@[simp] theorem fldK_ok {ok : Str → Str → Bool} {f : Str} : fldK ok f (.ok x S) = opt (fldD ok S f x) S := rfl
def biK (x : Str) (q : Res (List D)) : Res D := q.bind fun xs S1 => opt (bi x S1 xs) S1
@[simp] theorem eBi_K {x : Str} : eBi x r env S = biK x (r env S) := rfl
@[simp] theorem biK_ok {x : Str} : biK x (.ok xs S) = opt (bi x S xs) S := rfl
@[simp] theorem bi_int_i {i : Int} : bi "int" S [.int i] = some (.int i) := by kernel_rfl
@[simp] theorem bi_int_b {k : Bool} : bi "int" S [.bl k] = some (.int (if k then 1 else 0)) := by kernel_rfl
@[simp] theorem bi_abs_i {i : Int} : bi "abs" S [.int i] = some (.int (if i < 0 then -i else i)) := by kernel_rfl
@[simp] theorem bi_min_i {i j : Int} : bi "min" S [.int i, .int j] = some (.int (if j < i then j else i)) := by kernel_rfl
@[simp] theorem bi_max_i {i j : Int} : bi "max" S [.int i, .int j] = some (.int (if j > i then j else i)) := by kernel_rfl
@[simp] theorem bi_len_l : bi "len" S [.lst ds] = some (.int ds.length) := by kernel_rfl
@[simp] theorem bi_len_t : bi "len" S [.tup ds] = some (.int ds.length) := by kernel_rfl
@[simp] theorem bi_len_s {ns : List Int} : bi "len" S [.scr ns] = some (.int ns.length) := by kernel_rfl
@[simp] theorem bi_list_l : bi "list" S [.lst ds] = some (.lst ds) := by kernel_rfl
theorem bi_divmod_i {i j : Int} : bi "divmod" S [.int i, .int j] = if (decide (0 < j) && decide (j.natAbs.log2 < 9000)) = true then some (.tup [.int (i / j), .int (i % j)]) else none := by kernel_rfl
@[simp] theorem bi_divmod_ok {i j : Int} (h : 0 < j) (h' : j.natAbs < 2 ^ 64) : bi "divmod" S [.int i, .int j] = some (.tup [.int (i / j), .int (i % j)]) := by
  rw [bi_divmod_i, if_pos]
  rw [decide_eq_true h, decide_eq_true (show j.natAbs.log2 < 9000 by have := log_lt h' (by decide); omega)]
  rfl
/-! operators -/
@[simp] theorem bop_add {i j : Int} : bop .Add S (.int i) (.int j) = some (.int (i + j)) := rfl
@[simp] theorem bop_sub {i j : Int} : bop .Sub S (.int i) (.int j) = some (.int (i - j)) := rfl
theorem bop_mul' {i j : Int} : bop .Mult S (.int i) (.int j) = if mulOk i j = true then some (.int (i * j)) else none := rfl
@[simp] theorem bop_mul {i j : Int} (h : mulOk i j = true) : bop .Mult S (.int i) (.int j) = some (.int (i * j)) := by rw [bop_mul', if_pos h]
theorem bop_fdiv' {i j : Int} : bop .FloorDiv S (.int i) (.int j) = if divOk j = true then some (.int (i.fdiv j)) else none := rfl
@[simp] theorem bop_fdiv {i j : Int} (h : 0 < j) (h' : j.natAbs < 2 ^ 64) : bop .FloorDiv S (.int i) (.int j) = some (.int (i / j)) := by
  rw [bop_fdiv', if_pos (divOk_of (by omega) h'), Int.fdiv_eq_ediv_of_nonneg _ (by omega)]
@[simp] theorem bop_mod {i j : Int} (h : 0 < j) : bop .Mod S (.int i) (.int j) = some (.int (i % j)) := by
  show (if j = 0 then none else some (D.int (i.fmod j))) = _
  rw [if_neg (by omega), Int.fmod_eq_emod_of_nonneg _ (by omega)]
@[simp] theorem bop_cat (h : xs.length + ds.length ≤ 1000) : bop .Add S (.lst xs) (.lst ds) = some (.lst (xs ++ ds)) := by
  show (if xs.length + ds.length ≤ sizeLine then some (D.lst (xs ++ ds)) else none) = _
  rw [if_pos (small h)]
@[simp] theorem cop_lt {i j : Int} : cop .Lt S (.int i) (.int j) = some (.bl (decide (i < j))) := rfl
@[simp] theorem cop_le {i j : Int} : cop .LtE S (.int i) (.int j) = some (.bl (decide (i ≤ j))) := rfl
@[simp] theorem cop_gt {i j : Int} : cop .Gt S (.int i) (.int j) = some (.bl (decide (j < i))) := rfl
@[simp] theorem cop_ge {i j : Int} : cop .GtE S (.int i) (.int j) = some (.bl (decide (j ≤ i))) := rfl
theorem eqv_int {i j : Int} : PyData.eqv (.int i) (.int j) = decide (i = j) := by
  show (i == j) = _
  by_cases h : i = j
  · rw [decide_eq_true h]; exact beq_iff_eq.mpr h
  · rw [decide_eq_false h]; exact beq_eq_false_iff_ne.mpr h
@[simp] theorem cop_eq {i j : Int} : cop .Eq S (.int i) (.int j) = some (.bl (decide (i = j))) := by
  have : cop .Eq S (.int i) (.int j) = some (.bl (PyData.eqv (.int i) (.int j))) := rfl
  rw [this, eqv_int]
@[simp] theorem cop_ne {i j : Int} : cop .NotEq S (.int i) (.int j) = some (.bl (!decide (i = j))) := by
  have : cop .NotEq S (.int i) (.int j) = some (.bl (!PyData.eqv (.int i) (.int j))) := rfl
  rw [this, eqv_int]
@[simp] theorem cop_isN {i : Int} : cop .Is S (.int i) .non = some (.bl false) := rfl
@[simp] theorem cop_isNN : cop .Is S .non .non = some (.bl true) := rfl
theorem ixD_l {i : Int} : ixD S (.lst ds) (.int i) = L2.atI ds i := rfl
theorem ixD_t {i : Int} : ixD S (.tup ds) (.int i) = L2.atI ds i := rfl
/-! calls -/
def callK (cf : Cf) (io : Bool) (k : Fk) (np : Nat) (dl : List D) (q : Res (List D)) : Res D := q.bind fun xs S1 => (opt (fill np dl xs) S1).bind fun ys S2 => if io = true then cf k ys S2 else cf k (frzs S2 ys).1 (frzs S2 ys).2
def callK2 (cf : Cf) (io : Bool) (k : Fk) (o : Option (List D)) (S : Sto) : Res D := (opt o S).bind fun ys S2 => if io = true then cf k ys S2 else cf k (frzs S2 ys).1 (frzs S2 ys).2
@[simp] theorem eCall_K {io : Bool} {k : Fk} {np : Nat} {dl : List D} : eCall cf io k np dl r env S = callK cf io k np dl (r env S) := rfl
@[simp] theorem callK_ok {io : Bool} {k : Fk} {np : Nat} {dl : List D} : callK cf io k np dl (.ok xs S) = callK2 cf io k (fill np dl xs) S := rfl
@[simp] theorem callK2_t {k : Fk} : callK2 cf true k (some xs) S = cf k xs S := rfl
@[simp] theorem callK2_f {k : Fk} : callK2 cf false k (some xs) S = cf k (frzs S xs).1 (frzs S xs).2 := rfl
theorem fill_full' {np : Nat} {dl : List D} (h : xs.length = np) : fill np dl xs = some xs := by
  unfold fill
  rw [if_pos (by omega), if_pos (by omega), h, Nat.sub_self, Nat.sub_zero, List.drop_length, List.append_nil]
@[simp] theorem fill_0 : fill 0 [] [] = some [] := rfl
@[simp] theorem fill_1 {dl : List D} : fill 1 dl [x] = some [x] := fill_full' rfl
@[simp] theorem fill_2 {dl : List D} : fill 2 dl [x, y] = some [x, y] := fill_full' rfl
@[simp] theorem fill_3 {dl : List D} {z : D} : fill 3 dl [x, y, z] = some [x, y, z] := fill_full' rfl
@[simp] theorem fill_4 {dl : List D} {z z1 : D} : fill 4 dl [x, y, z, z1] = some [x, y, z, z1] := fill_full' rfl
@[simp] theorem fill_5 {dl : List D} {z z1 z2 : D} : fill 5 dl [x, y, z, z1, z2] = some [x, y, z, z1, z2] := fill_full' rfl
@[simp] theorem fill_6 {dl : List D} {z z1 z2 z3 : D} : fill 6 dl [x, y, z, z1, z2, z3] = some [x, y, z, z1, z2, z3] := fill_full' rfl
@[simp] theorem fill_d1 : fill 2 [d] [x] = some [x, d] := rfl
@[simp] theorem frzs_nil : frzs S [] = ([], S) := rfl
theorem frzs_cons : frzs S (d :: ds) = ((frz1 S d).1 :: (frzs (frz1 S d).2 ds).1, (frzs (frz1 S d).2 ds).2) := rfl
@[simp] theorem frzs_c1 : (frzs S (d :: ds)).1 = (frz1 S d).1 :: (frzs (frz1 S d).2 ds).1 := rfl
@[simp] theorem frzs_c2 : (frzs S (d :: ds)).2 = (frzs (frz1 S d).2 ds).2 := rfl
@[simp] theorem frz1_int {i : Int} : frz1 S (.int i) = (.int i, S) := rfl
@[simp] theorem frz1_bl {i : Bool} : frz1 S (.bl i) = (.bl i, S) := rfl
@[simp] theorem frz1_str {i : Str} : frz1 S (.str i) = (.str i, S) := rfl
@[simp] theorem frz1_non : frz1 S .non = (.non, S) := rfl
@[simp] theorem frz1_tup : frz1 S (.tup ds) = (.tup ds, S) := rfl
@[simp] theorem frz1_lst : frz1 S (.lst ds) = (.lst ds, S) := rfl
@[simp] theorem frz1_scr {ns : List Int} : frz1 S (.scr ns) = (.scr ns, S) := rfl
@[simp] theorem frz1_ins {c : Str} {fs : List (Str × D)} : frz1 S (.ins c fs) = (.ins c fs, S) := rfl
def mkK (cf : Cf) (c : Str) (np : Nat) (dl : List D) (q : Res (List D)) : Res D := q.bind fun xs S1 => (opt (fill np dl xs) S1).bind fun ys S2 => made c S2.length (cf (c, some "__init__") (.mu S2.length :: ys) (S2 ++ [.ins c []]))
def mkK2 (cf : Cf) (c : Str) (o : Option (List D)) (S : Sto) : Res D := (opt o S).bind fun ys S2 => made c S2.length (cf (c, some "__init__") (.mu S2.length :: ys) (S2 ++ [.ins c []]))
@[simp] theorem eMake_K {c : Str} {np : Nat} {dl : List D} : eMake cf c np dl r env S = mkK cf c np dl (r env S) := rfl
@[simp] theorem mkK_ok {c : Str} {np : Nat} {dl : List D} : mkK cf c np dl (.ok xs S) = mkK2 cf c (fill np dl xs) S := rfl
@[simp] theorem mkK2_ok {c : Str} : mkK2 cf c (some xs) S = made c S.length (cf (c, some "__init__") (.mu S.length :: xs) (S ++ [.ins c []])) := rfl
@[simp] theorem made_new {c : Str} {fs : List (Str × D)} : made c S.length (.ok .non (S ++ [.ins c fs])) = .ok (.ins c fs) S := by
  unfold made
  simp
def methK (cf : Cf) (io : Fk → Bool) (mt : Str → Str → Option (Nat × List D)) (m : Str) (q : Res D) (r : DA) (env : Ev) : Res D := q.bind fun x S1 => match insOf S1 x with
  | some (c, fs) => (match fs.lookup m with
    | none => (match mt c m with
      | some (np, ds) => (r env S1).bind fun xs S2 => (opt (fill np ds xs) S2).bind fun ys S3 =>
        if io (c, some m) = true then cf (c, some m) (x :: ys) S3 else cf (c, some m) (x :: (frzs S3 ys).1) (frzs S3 ys).2
      | none => .bad)
    | some _ => .bad)
  | none => .bad
@[simp] theorem eMeth_K {io : Fk → Bool} {mt : Str → Str → Option (Nat × List D)} {m : Str} : eMeth cf io mt m a r env S = methK cf io mt m (a env S) r env := rfl
def methK2 (cf : Cf) (io : Bool) (k : Fk) (np : Nat) (dl : List D) (x : D) (q : Res (List D)) : Res D := q.bind fun xs S2 => (opt (fill np dl xs) S2).bind fun ys S3 => if io = true then cf k (x :: ys) S3 else cf k (x :: (frzs S3 ys).1) (frzs S3 ys).2
theorem methK_ins {io : Fk → Bool} {mt : Str → Str → Option (Nat × List D)} {m c : Str} {fs : List (Str × D)} {np : Nat} {dl : List D} (h1 : fs.lookup m = none) (h2 : mt c m = some (np, dl)) : methK cf io mt m (.ok (.ins c fs) S) r env = methK2 cf (io (c, some m)) (c, some m) np dl (.ins c fs) (r env S) := by
  show (match fs.lookup m with
    | none => (match mt c m with
      | some (np, ds) => (r env S).bind fun xs S2 => (opt (fill np ds xs) S2).bind fun ys S3 =>
        if io (c, some m) = true then cf (c, some m) (.ins c fs :: ys) S3 else cf (c, some m) (.ins c fs :: (frzs S3 ys).1) (frzs S3 ys).2
      | none => .bad)
    | some _ => .bad) = _
  rw [h1, h2]
  rfl
def methK3 (cf : Cf) (io : Bool) (k : Fk) (x : D) (o : Option (List D)) (S : Sto) : Res D := (opt o S).bind fun ys S3 => if io = true then cf k (x :: ys) S3 else cf k (x :: (frzs S3 ys).1) (frzs S3 ys).2
@[simp] theorem methK2_ok {io : Bool} {k : Fk} {np : Nat} {dl : List D} : methK2 cf io k np dl x (.ok xs S) = methK3 cf io k x (fill np dl xs) S := rfl
@[simp] theorem methK3_f {k : Fk} : methK3 cf false k x (some xs) S = cf k (x :: (frzs S xs).1) (frzs S xs).2 := rfl
@[simp] theorem methK3_t {k : Fk} : methK3 cf true k x (some xs) S = cf k (x :: xs) S := rfl
def isiK (own : Str → Bool) (cs : List Str) (q : Res D) : Res D := q.bind fun d S1 => match tyOf S1 d with
  | some t => if okTy own t = true then .ok (.bl (isAny own t cs)) S1 else .bad
  | none => .bad
@[simp] theorem eIsi_K {own : Str → Bool} {cs : List Str} : eIsi own cs a env S = isiK own cs (a env S) := rfl
/-! statements -/
def seqK (q : Res Fl) (u : DS) : Res Fl := match q with
  | .ok (.nx env') S1 => u env' S1
  | r => r
@[simp] theorem sSeq_K : sSeq s1 s2 env S = seqK (s1 env S) s2 := rfl
@[simp] theorem seqK_nx : seqK (.ok (.nx env) S) s2 = s2 env S := rfl
@[simp] theorem seqK_rt : seqK (.ok (.rt d) S) s2 = .ok (.rt d) S := rfl
@[simp] theorem sNext_ok : sNext env S = .ok (.nx env) S := rfl
@[simp] theorem sRetN_ok : sRetN env S = .ok (.rt .non) S := rfl
def retK (q : Res D) (env : Ev) : Res Fl := bindS q env fun x S1 => .ok (.rt x) S1
@[simp] theorem sRet_K : sRet a env S = retK (a env S) env := rfl
@[simp] theorem retK_ok : retK (.ok x S) env = .ok (.rt x) S := rfl
def dropK (q : Res D) (env : Ev) : Res Fl := bindS q env fun _ S1 => .ok (.nx env) S1
@[simp] theorem sDrop_K : sDrop a env S = dropK (a env S) env := rfl
@[simp] theorem dropK_ok : dropK (.ok x S) env = .ok (.nx env) S := rfl
def ifK (q : Res Bool) (s1 s2 : DS) (env : Ev) : Res Fl := bindS q env fun k S1 => if k = true then s1 env S1 else s2 env S1
@[simp] theorem sIf_K : sIf t s1 s2 env S = ifK (t env S) s1 s2 env := rfl
@[simp] theorem ifK_t : ifK (.ok true S) s1 s2 env = s1 env S := rfl
@[simp] theorem ifK_f : ifK (.ok false S) s1 s2 env = s2 env S := rfl
def asgK (q : Res D) (g : DG) (env : Ev) : Res Fl := bindS q env fun x S1 => (g x env S1).bind fun env' S2 => .ok (.nx env') S2
def asgK2 (q : Res Ev) : Res Fl := q.bind fun env' S2 => .ok (.nx env') S2
@[simp] theorem sAsg_K : sAsg a g env S = asgK (a env S) g env := rfl
@[simp] theorem asgK_ok : asgK (.ok x S) g env = asgK2 (g x env S) := rfl
@[simp] theorem asgK2_ok : asgK2 (.ok env S) = .ok (.nx env) S := rfl
@[simp] theorem gNm_ok {i : Nat} : gNm i d env S = .ok (env.set i (some d)) S := rfl
@[simp] theorem gTp_ok {q : List D → Ev → Sto → Res Ev} : gTp q (.tup ds) env S = q ds env S := rfl
def gcK (q : Res Ev) (r : List D → Ev → Sto → Res Ev) (ds : List D) : Res Ev := q.bind fun env' S1 => r ds env' S1
@[simp] theorem gCons_K {q : List D → Ev → Sto → Res Ev} : gCons g q (d :: ds) env S = gcK (g d env S) q ds := rfl
@[simp] theorem gcK_ok {q : List D → Ev → Sto → Res Ev} : gcK (.ok env S) q ds = q ds env S := rfl
@[simp] theorem gNil_ok : gNil [] env S = .ok env S := rfl
def gfK (ok : Str → Str → Bool) (f : Str) (q : Res D) (d : D) (env : Ev) : Res Ev := (noX q).bind fun x S1 => match setFld ok S1 f x d with
  | some S2 => .ok env S2
  | none => .bad
def gfK2 (o : Option Sto) (env : Ev) : Res Ev := match o with
  | some S2 => .ok env S2
  | none => .bad
@[simp] theorem gFl_K {ok : Str → Str → Bool} {f : Str} : gFl ok f a d env S = gfK ok f (a env S) d env := rfl
@[simp] theorem gfK_ok {ok : Str → Str → Bool} {f : Str} : gfK ok f (.ok x S) d env = gfK2 (setFld ok S f x d) env := rfl
@[simp] theorem gfK2_ok : gfK2 (some S) env = .ok env S := rfl
def gsK (q : Res D) (b : DE) (d : D) (env : Ev) : Res Ev := (noX q).bind fun x S1 => (noX (b env S1)).bind fun y S2 => match setIx S2 x y d with
  | some S3 => .ok env S3
  | none => .bad
def gsK2 (x : D) (q : Res D) (d : D) (env : Ev) : Res Ev := (noX q).bind fun y S2 => match setIx S2 x y d with
  | some S3 => .ok env S3
  | none => .bad
@[simp] theorem gSb_K : gSb a b d env S = gsK (a env S) b d env := rfl
@[simp] theorem gsK_ok : gsK (.ok x S) b d env = gsK2 x (b env S) d env := rfl
@[simp] theorem gsK2_ok : gsK2 x (.ok y S) d env = gfK2 (setIx S x y d) env := rfl
def augK (o : Option (Option D)) (i : Nat) (f : Sto → D → D → Option D) (a : DE) (env : Ev) (S : Sto) : Res Fl := match o with
  | some (some x) => bindS (a env S) env fun y S1 => (opt (f S1 x y) S1).bind fun z S2 => .ok (.nx (env.set i (some z))) S2
  | _ => .bad
def augK2 (x : D) (i : Nat) (f : Sto → D → D → Option D) (q : Res D) (env : Ev) : Res Fl := bindS q env fun y S1 => (opt (f S1 x y) S1).bind fun z S2 => .ok (.nx (env.set i (some z))) S2
def augK3 (o : Option D) (i : Nat) (env : Ev) (S : Sto) : Res Fl := (opt o S).bind fun z S2 => .ok (.nx (env.set i (some z))) S2
@[simp] theorem sAug_K {i : Nat} : sAug i f a env S = augK env[i]? i f a env S := rfl
@[simp] theorem augK_ok {i : Nat} : augK (some (some x)) i f a env S = augK2 x i f (a env S) env := rfl
@[simp] theorem augK2_ok {i : Nat} : augK2 x i f (.ok y S) env = augK3 (f S x y) i env S := rfl
@[simp] theorem augK3_ok {i : Nat} : augK3 (some x) i env S = .ok (.nx (env.set i (some x))) S := rfl
@[simp] theorem iAdd_i {i j : Int} : iAdd S (.int i) (.int j) = some (.int (i + j)) := rfl
@[simp] theorem iSub_i {i j : Int} : iSub S (.int i) (.int j) = some (.int (i - j)) := rfl
def forRK (q : Res D) (b : DE) (g : DG) (s1 : DS) (env : Ev) : Res Fl := bindS q env fun x S1 => bindS (b env S1) env fun y S2 => match rgD x y with
  | some ij => forD g s1 (rangeD ij.1 ij.2) env S2
  | none => .bad
def forRK2 (x : D) (q : Res D) (g : DG) (s1 : DS) (env : Ev) : Res Fl := bindS q env fun y S2 => match rgD x y with
  | some ij => forD g s1 (rangeD ij.1 ij.2) env S2
  | none => .bad
@[simp] theorem sForR_K : sForR a b g s1 env S = forRK (a env S) b g s1 env := Eq.trans rfl rfl
@[simp] theorem forRK_ok : forRK (.ok x S) b g s1 env = forRK2 x (b env S) g s1 env := Eq.trans rfl rfl
theorem forRK2_ok {i j : Int} (h1 : i.natAbs < 2 ^ 62) (h2 : j.natAbs < 2 ^ 62) : forRK2 (.int i) (.ok (.int j) S) g s1 env = forD g s1 (rangeD i j) env S := by
  have : rgD (.int i) (.int j) = some (i, j) := by
    show (if (decide (i.natAbs < 2 ^ 62) && decide (j.natAbs < 2 ^ 62)) = true then some (i, j) else none) = _
    rw [if_pos]
    rw [decide_eq_true h1, decide_eq_true h2]
    rfl
  show (match rgD (.int i) (.int j) with
    | some ij => forD g s1 (rangeD ij.1 ij.2) env S
    | none => .bad) = _
  rw [this]
@[simp] theorem fin_int {i : Int} {n : Nat} : fin false n (.ok (.rt (.int i)) S) = .ok (.int i) (S.take n) := rfl
@[simp] theorem fin_bl {i : Bool} {n : Nat} : fin false n (.ok (.rt (.bl i)) S) = .ok (.bl i) (S.take n) := rfl
@[simp] theorem fin_str {i : Str} {n : Nat} : fin false n (.ok (.rt (.str i)) S) = .ok (.str i) (S.take n) := rfl
@[simp] theorem fin_non {n : Nat} : fin false n (.ok (.rt .non) S) = .ok .non (S.take n) := rfl
@[simp] theorem fin_nx {n : Nat} : fin false n (.ok (.nx env) S) = .ok .non (S.take n) := rfl
@[simp] theorem fin_tup {n : Nat} (h : noMus ds = true) : fin false n (.ok (.rt (.tup ds)) S) = .ok (.tup ds) (S.take n) := by
  show (if noMus ds = true then Res.ok (D.tup ds) (S.take n) else .bad) = _
  rw [if_pos h]
@[simp] theorem fin_lst {n : Nat} (h : noMus ds = true) : fin false n (.ok (.rt (.lst ds)) S) = .ok (.lst ds) (S.take n) := by
  show (if noMus ds = true then Res.ok (D.lst ds) (S.take n) else .bad) = _
  rw [if_pos h]
@[simp] theorem fin_ins {n : Nat} {c : Str} {fs : List (Str × D)} (h : noMuf fs = true) : fin false n (.ok (.rt (.ins c fs)) S) = .ok (.ins c fs) (S.take n) := by
  show (if noMuf fs = true then Res.ok (D.ins c fs) (S.take n) else .bad) = _
  rw [if_pos h]
@[simp] theorem startD_eq {N : List Str} : startD N xs = xs.map some ++ List.replicate (N.length - xs.length) none := rfl
/-! the pen -/
variable {p : Pen} {R : Sto}
@[simp] theorem pen_left : ixD (p.m :: R) (.mu 0) (.str "left") = some (.int p.left) := by kernel_rfl
@[simp] theorem pen_at : ixD (p.m :: R) (.mu 0) (.str "at") = some (.int p.pos) := by kernel_rfl
@[simp] theorem pen_cells : ixD (p.m :: R) (.mu 0) (.str "cells") = some (.lst (p.cells.map D.int)) := by kernel_rfl
@[simp] theorem pen_setL {v : Int} : setIx (p.m :: R) (.mu 0) (.str "left") (.int v) = some ({ p with left := v }.m :: R) := by
  have h : setIx (p.m :: R) (.mu 0) (.str "left") (.int v) = if ([(Sum.inr "cells", D.lst (p.cells.map D.int)), (.inr "at", .int p.pos), (.inr "left", .int p.left)] : List (Key × D)).length < sizeLine then some ({ p with left := v }.m :: R) else none := by kernel_rfl
  rw [h, if_pos (by rw [sizeLine_eq]; show 3 < 16777216; decide)]
@[simp] theorem pen_setA {v : Int} : setIx (p.m :: R) (.mu 0) (.str "at") (.int v) = some ({ p with pos := v }.m :: R) := by
  have h : setIx (p.m :: R) (.mu 0) (.str "at") (.int v) = if ([(Sum.inr "cells", D.lst (p.cells.map D.int)), (.inr "at", .int p.pos), (.inr "left", .int p.left)] : List (Key × D)).length < sizeLine then some ({ p with pos := v }.m :: R) else none := by kernel_rfl
  rw [h, if_pos (by rw [sizeLine_eq]; show 3 < 16777216; decide)]
/-! numbers' sizes -/
@[simp] theorem mulOk_ls {i j : Int} (h : i.natAbs < 2 ^ 64) : mulOk i j = true := mulOk_l h
@[simp] theorem mulOk_rs {i j : Int} (h : j.natAbs < 2 ^ 64) : mulOk i j = true := mulOk_r h
@[simp] theorem emod_small {i c : Int} (h0 : 0 < c) (h : c < 2 ^ 63) : (i % c).natAbs < 18446744073709551616 := by
  have h1 := Int.emod_nonneg i (show c ≠ 0 by omega)
  have h2 := Int.emod_lt_of_pos i h0
  omega
@[simp] theorem mulOk_el {i c j : Int} (h0 : 0 < c) (h : c < 2 ^ 63) : mulOk (i % c) j = true := mulOk_l (emod_small h0 h)
@[simp] theorem bop_pow {i j : Int} (h0 : 0 ≤ j) (h : j ≤ 1000000) (h1 : i.natAbs < 2 ^ 64) : bop .Pow S (.int i) (.int j) = some (.int (i ^ j.toNat)) := by
  show (if (decide (0 ≤ j) && decide (j.natAbs ≤ 1000000) && decide (i.natAbs < 2 ^ 64)) = true then some (D.int (i ^ j.toNat)) else none) = _
  rw [if_pos]
  rw [decide_eq_true h0, decide_eq_true (show j.natAbs ≤ 1000000 by omega), decide_eq_true h1]
  rfl
theorem atI_of {α : Type} {l : List α} {i : Int} (h0 : 0 ≤ i) (h : i < l.length) : L2.atI l i = l[i.toNat]? := by
  unfold L2.atI L2.ixN
  rw [if_pos h0, if_pos h]
  rfl
theorem atI_some {α : Type} {l : List α} {i : Int} (h0 : 0 ≤ i) (h : i < l.length) : ∃ x, L2.atI l i = some x ∧ x ∈ l := by
  rw [atI_of h0 h]
  have : i.toNat < l.length := by omega
  exact ⟨l[i.toNat], List.getElem?_eq_getElem this, List.getElem_mem this⟩
theorem pys_ints : ∀ cs : List Int, pys (cs.map D.int) = some (cs.map PyData.int)
  | [] => rfl
  | c :: cs => by
    show (match pys (cs.map D.int) with
      | some ps => some (PyData.int c :: ps)
      | none => none) = _
    rw [pys_ints cs]
    rfl
theorem lay_ints : ∀ cs : List Int, PyData.canLayAll0 (cs.map PyData.int) = true
  | [] => by simp only [List.map_nil, PyData.canLayAll0]
  | c :: cs => by simp only [List.map_cons, PyData.canLayAll0, PyData.canLay0, lay_ints cs, Bool.and_self]
theorem dep_ints : ∀ cs : List Int, PyData.depthAll (cs.map PyData.int) ≤ 1
  | [] => by simp [PyData.depthAll]
  | c :: cs => by
    have := dep_ints cs
    simp only [List.map_cons, PyData.depthAll, PyData.depth]
    omega
theorem pyS_ints (cs : List Int) : pyS S (.lst (cs.map D.int)) = some (.list (cs.map PyData.int)) := by
  have e : py (dr S (.lst (cs.map D.int))) = some (.list (cs.map PyData.int)) := by
    show (pys (cs.map D.int)).map PyData.list = _
    rw [pys_ints]
    rfl
  unfold pyS
  rw [e]
  show (if SeqAt.shaped (.list (cs.map PyData.int)) = true then _ else none) = _
  rw [if_pos]
  have d := dep_ints cs
  show (PyData.canLayAll0 (cs.map PyData.int) && decide (PyData.depthAll (cs.map PyData.int) + 1 ≤ 64)) = true
  rw [lay_ints, decide_eq_true (show PyData.depthAll (cs.map PyData.int) + 1 ≤ 64 by omega)]
  rfl
@[simp] theorem cop_ne_nil {cs : List Int} : cop .NotEq S (.lst (cs.map D.int)) (.lst []) = some (.bl (!cs.isEmpty)) := by
  have e : cop .NotEq S (.lst (cs.map D.int)) (.lst []) = (eqD S (.lst (cs.map D.int)) (.lst [])).map fun b => .bl (!b) := rfl
  have e2 : pyS S (.lst []) = some (.list []) := pyS_ints (S := S) []
  rw [e]
  unfold eqD
  rw [pyS_ints, e2]
  cases cs with
  | nil => simp [PyData.eqv, PyData.eqvAll]
  | cons c cs => simp [PyData.eqv, PyData.eqvAll]
/-! loops -/
def whK (q : Res Bool) (t : DT) (b : DS) (n : Nat) (env : Ev) : Res Fl := bindS q env fun k S1 => if k = true then (match b env S1 with
      | .ok (.nx env2) S2 => whileD t b n env2 S2
      | .ok (.ct env2) S2 => whileD t b n env2 S2
      | .ok (.bk env2) S2 => .ok (.nx env2) S2
      | r => r)
    else .ok (.nx env) S1
def whK2 (q : Res Fl) (t : DT) (b : DS) (n : Nat) : Res Fl := match q with
      | .ok (.nx env2) S2 => whileD t b n env2 S2
      | .ok (.ct env2) S2 => whileD t b n env2 S2
      | .ok (.bk env2) S2 => .ok (.nx env2) S2
      | r => r
theorem whileD_K {n : Nat} : whileD t s1 (n + 1) env S = whK (t env S) t s1 n env := rfl
@[simp] theorem whK_f {n : Nat} : whK (.ok false S) t s1 n env = .ok (.nx env) S := rfl
@[simp] theorem whK_t {n : Nat} : whK (.ok true S) t s1 n env = whK2 (s1 env S) t s1 n := rfl
@[simp] theorem whK2_nx {n : Nat} : whK2 (.ok (.nx env) S) t s1 n = whileD t s1 n env S := rfl
def foK (q : Res Ev) (g : DG) (b : DS) (ds : List D) : Res Fl := q.bind fun env1 S1 => match b env1 S1 with
    | .ok (.nx env2) S2 => forD g b ds env2 S2
    | .ok (.ct env2) S2 => forD g b ds env2 S2
    | .ok (.bk env2) S2 => .ok (.nx env2) S2
    | r => r
def foK2 (q : Res Fl) (g : DG) (b : DS) (ds : List D) : Res Fl := match q with
    | .ok (.nx env2) S2 => forD g b ds env2 S2
    | .ok (.ct env2) S2 => forD g b ds env2 S2
    | .ok (.bk env2) S2 => .ok (.nx env2) S2
    | r => r
@[simp] theorem forD_nil : forD g s1 [] env S = .ok (.nx env) S := rfl
@[simp] theorem forD_K : forD g s1 (d :: ds) env S = foK (g d env S) g s1 ds := rfl
@[simp] theorem foK_ok : foK (.ok env S) g s1 ds = foK2 (s1 env S) g s1 ds := rfl
@[simp] theorem foK2_nx : foK2 (.ok (.nx env) S) g s1 ds = forD g s1 ds env S := rfl
@[simp] theorem foK2_rt : foK2 (.ok (.rt d) S) g s1 ds = .ok (.rt d) S := rfl
def fofK (q : Res D) (g : DG) (s1 : DS) (env : Ev) : Res Fl := bindS (q.bind fun x S1 => .ok (frz1 S1 x).1 (frz1 S1 x).2) env fun x S1 => match itemsD x with
  | some ds => forD g s1 ds env S1
  | none => .bad
@[simp] theorem sFor_K : sFor a g s1 env S = fofK (a env S) g s1 env := rfl
@[simp] theorem fofK_l : fofK (.ok (.lst ds) S) g s1 env = forD g s1 ds env S := rfl
@[simp] theorem fofK_t : fofK (.ok (.tup ds) S) g s1 env = forD g s1 ds env S := rfl
def foeK (q : Res D) (g : DG) (s1 : DS) (env : Ev) : Res Fl := bindS (q.bind fun x S1 => .ok (frz1 S1 x).1 (frz1 S1 x).2) env fun x S1 => match x with
  | .lst ds => forD g s1 (enumD 0 ds) env S1
  | _ => .bad
@[simp] theorem sForE_K : sForE a g s1 env S = foeK (a env S) g s1 env := rfl
@[simp] theorem foeK_l : foeK (.ok (.lst ds) S) g s1 env = forD g s1 (enumD 0 ds) env S := rfl
theorem forR_ok {i j : Int} (h1 : -1000000 ≤ i) (h2 : i ≤ 1000000) (h3 : -1000000 ≤ j) (h4 : j ≤ 1000000) : forRK2 (.int i) (.ok (.int j) S) g s1 env = forD g s1 (rangeD i j) env S :=
  forRK2_ok (Nat.lt_of_le_of_lt (show i.natAbs ≤ 1000000 by omega) (by decide)) (Nat.lt_of_le_of_lt (show j.natAbs ≤ 1000000 by omega) (by decide))
@[simp] theorem forR_nat {k : Nat} (h : k ≤ 1000000) : forRK2 (.int 0) (.ok (.int (k : Int)) S) g s1 env = forD g s1 (rangeD 0 k) env S := forR_ok (by decide) (by decide) (by omega) (by omega)
/-- a loop that keeps what is wanted -/
theorem for_inv (g : DG) (b : DS) (I : Nat → Ev → Sto → Prop) : ∀ (ds : List D) (k : Nat) (env : Ev) (S : Sto), I k env S → (∀ (j : Nat) (d : D) (env : Ev) (S : Sto), k ≤ j → j < k + ds.length → d ∈ ds → I j env S → ∃ env' S', I (j + 1) env' S' ∧ ∀ r, foK (g d env S) g b r = forD g b r env' S') →
    ∃ env' S', forD g b ds env S = .ok (.nx env') S' ∧ I (k + ds.length) env' S'
  | [], k, env, S, h, _ => ⟨env, S, rfl, h⟩
  | d :: ds, k, env, S, h, st => by
    obtain ⟨env1, S1, h1, e1⟩ := st k d env S (Nat.le_refl _) (by simp) (by simp) h
    obtain ⟨env2, S2, e2, h2⟩ := for_inv g b I ds (k + 1) env1 S1 h1 fun j d' env S hj hl hd hI => st j d' env S (by omega) (by simp; omega) (List.mem_cons_of_mem _ hd) hI
    refine ⟨env2, S2, ?_, by rw [show k + (d :: ds).length = k + 1 + ds.length by simp; omega]; exact h2⟩
    rw [forD_K, e1 ds]
    exact e2
theorem rangeD_len {i j : Int} : (rangeD i j).length = (j - i).toNat := by unfold rangeD; simp
/-! append -/
def apK (q : Res D) (b : DE) (env : Ev) : Res Fl := bindS q env fun x S1 => if isMuL S1 x = true then bindS (b env S1) env (fun y S2 => match appD S2 x y with
  | some S3 => .ok (.nx env) S3
  | none => .bad) else .bad
def apK2 (ok : Bool) (x : D) (q : Res D) (env : Ev) : Res Fl := if ok = true then bindS q env (fun y S2 => match appD S2 x y with
  | some S3 => .ok (.nx env) S3
  | none => .bad) else .bad
def apK3 (o : Option Sto) (env : Ev) : Res Fl := match o with
  | some S3 => .ok (.nx env) S3
  | none => .bad
@[simp] theorem sApp_K : sApp a b env S = apK (a env S) b env := rfl
@[simp] theorem apK_ok : apK (.ok x S) b env = apK2 (isMuL S x) x (b env S) env := rfl
@[simp] theorem apK2_ok : apK2 true x (.ok y S) env = apK3 (appD S x y) env := rfl
@[simp] theorem apK3_ok : apK3 (some S) env = .ok (.nx env) S := rfl
@[simp] theorem isMuL_1 {m : MO} {R : Sto} : isMuL (m :: .lst ds :: R) (.mu 1) = true := rfl
@[simp] theorem appD_1 {m : MO} {R : Sto} (h : ds.length < 1000) (h' : noMu y = true) : appD (m :: .lst ds :: R) (.mu 1) y = some (m :: .lst (ds ++ [y]) :: R) := by
  show (if (decide (ds.length < sizeLine) && noMu y) = true then some (m :: MO.lst (ds ++ [y]) :: R) else none) = _
  rw [if_pos]
  rw [decide_eq_true (show ds.length < sizeLine by rw [sizeLine_eq]; omega), h']
  rfl
@[simp] theorem frz1_1 {m : MO} {R : Sto} : frz1 (m :: .lst ds :: R) (.mu 1) = (.lst ds, m :: .frz (.lst ds) :: R) := rfl
theorem rep_flat {α : Type} {x : α} : ∀ k : Nat, (List.replicate k [x]).flatten = List.replicate k x
  | 0 => rfl
  | k + 1 => by rw [List.replicate_succ, List.replicate_succ, List.flatten_cons, rep_flat k]; rfl
theorem bop_rep {k : Nat} (h : k ≤ 1000) : bop .Mult S (.lst [x]) (.int k) = some (.lst (List.replicate k x)) := by
  have e : bop .Mult S (.lst [x]) (.int k) = if decide ((k : Int).natAbs < 2 ^ 62) && decide (([x] : List D).length * (k : Int).toNat ≤ sizeLine) then some (.lst (List.replicate (k : Int).toNat [x]).flatten) else none := Eq.trans rfl rfl
  rw [e, if_pos]
  · rw [Int.toNat_natCast, rep_flat]
  · rw [decide_eq_true (show (k : Int).natAbs < 2 ^ 62 from Nat.lt_of_le_of_lt (show (k : Int).natAbs ≤ 1000 by omega) (by decide)), decide_eq_true (show ([x] : List D).length * (k : Int).toNat ≤ sizeLine by rw [sizeLine_eq]; simp; omega)]
    rfl
@[simp] theorem cop_eq2 {a b c d : Int} : cop .Eq S (.tup [.int a, .int b]) (.tup [.int c, .int d]) = some (.bl (decide (a = c) && decide (b = d))) := by
  have e : cop .Eq S (.tup [.int a, .int b]) (.tup [.int c, .int d]) = some (.bl (PyData.eqv (.int a) (.int c) && (PyData.eqv (.int b) (.int d) && true))) := by kernel_rfl
  rw [e, eqv_int, eqv_int, Bool.and_true]
/-! sizes again -/
theorem bop_mul_b {i j : Int} (x y : Nat) (h : i.natAbs < 2 ^ x) (h' : j.natAbs < 2 ^ y) (hx : 0 < x) (hy : 0 < y) (hl : x + y ≤ 1000000) : bop .Mult S (.int i) (.int j) = some (.int (i * j)) := bop_mul (mulOk_b h h' hx hy hl)
theorem bop_fdiv_b {i j : Int} (h : 0 < j) (x : Nat) (h' : j.natAbs < 2 ^ x) (hx : 0 < x) (hl : x ≤ 9000) : bop .FloorDiv S (.int i) (.int j) = some (.int (i / j)) := by
  have hd : divOk j = true := by
    unfold divOk
    have := log_lt h' hx
    rw [decide_eq_true (show j ≠ 0 by omega), decide_eq_true (show j.natAbs.log2 < 9000 by omega)]
    rfl
  rw [bop_fdiv', if_pos hd, Int.fdiv_eq_ediv_of_nonneg _ (by omega)]
theorem mul_sz {i j : Int} {x y : Nat} (h : i.natAbs < 2 ^ x) (h' : j.natAbs < 2 ^ y) : (i * j).natAbs < 2 ^ (x + y) := by
  rw [Int.natAbs_mul, Nat.pow_add]
  exact Nat.mul_lt_mul'' h h'
theorem add_sz {i j : Int} {x : Nat} (h : i.natAbs < 2 ^ x) (h' : j.natAbs < 2 ^ x) : (i + j).natAbs < 2 ^ (x + 1) := by
  have := Nat.pow_succ (n := 2) (m := x)
  omega
theorem sz_mono {i : Int} {x y : Nat} (h : i.natAbs < 2 ^ x) (l : x ≤ y) : i.natAbs < 2 ^ y := Nat.lt_of_lt_of_le h (Nat.pow_le_pow_right (by decide) l)
/-! the two ways to bring a number down to its lowest scale -/
def low (u : Int) : Nat → Int × Nat
  | 0 => (u, 0)
  | k + 1 => if u % 10 = 0 then low (u / 10) k else (u, k + 1)
end
end Pv

set_option Elab.async false
set_option linter.all false
set_option maxRecDepth 100000
set_option maxHeartbeats 400000
namespace K49
open PySem L2 Pv
theorem is_integer_int {n : Nat} (hn : 1 ≤ n) (i : Int) (S : Sto) : C n ("is_integer", none) [.int i] S = .ok (.bl true) S := by
  rw [s_is_integer hn, show m_is_integer (C (n - 1)) (startD ["value"] [.int i]) S = .ok (.rt (.bl true)) S by kernel_rfl]
  simp
theorem is_whole_int {n : Nat} (hn : 2 ≤ n) (i : Int) (S : Sto) : C n ("is_whole", none) [.int i] S = .ok (.bl (decide (0 ≤ i))) S := by
  rw [s_is_whole (by omega)]
  simp [m_is_whole, is_integer_int (n := n - 1) (by omega)]
theorem draw_ok {n : Nat} (hn : 1 ≤ n) {p : Pen} {k : Int} (hp : PenOk k p) (hk : k < 2 ^ 60) {span : Int} (h1 : 1 ≤ span) (h2 : span < 2 ^ 63) (R : Sto) :
    ∃ d p', C n ("_law_draw", none) [.mu 0, .int span] (p.m :: R) = .ok (.int d) (p'.m :: R) ∧ 0 ≤ d ∧ d < span ∧ PenOk (k + 1) p' := by
  have a0 := hp.p0
  have a1 := hp.pk
  have ha : p.pos.natAbs < 2 ^ 64 := by omega
  have hs : span.natAbs < 2 ^ 64 := by omega
  have hs0 : 0 < span := by omega
  rw [s_law_draw hn]
  by_cases c1 : span ≤ p.left
  · refine ⟨_, { p with left := p.left / span }, by simp [m_law_draw, c1, hs0, hs]; rfl, Int.emod_nonneg _ (by omega), Int.emod_lt_of_pos _ hs0, ⟨hp.len, hp.p0, by show p.pos ≤ k + 1; omega⟩⟩
  · by_cases c2 : p.cells = []
    · have e0 : p.cells.isEmpty = true := by rw [c2]; rfl
      have e1 : ¬ p.pos < (p.cells.length : Int) := by rw [c2]; simp; omega
      refine ⟨_, { p with pos := p.pos + 1 }, by simp [m_law_draw, c1, hs0, hs, ha, e0, e1]; rfl, Int.emod_nonneg _ (by omega), Int.emod_lt_of_pos _ hs0, ⟨hp.len, by show 0 ≤ p.pos + 1; omega, by show p.pos + 1 ≤ k + 1; omega⟩⟩
    · have ln : 0 < (p.cells.length : Int) := by
        have := List.length_pos_iff.mpr c2
        omega
      have e0 : p.cells.isEmpty = false := by simpa using c2
      obtain ⟨c0, hc, hm⟩ := atI_some (l := p.cells.map D.int) (i := p.pos % p.cells.length) (Int.emod_nonneg _ (by omega)) (by rw [List.length_map]; exact Int.emod_lt_of_pos _ ln)
      obtain ⟨c, _, rfl⟩ := List.mem_map.mp hm
      have hq : ∀ S, bop .Mod S (.int p.pos) (.int p.cells.length) = some (.int (p.pos % p.cells.length)) := fun S => bop_mod ln
      by_cases c3 : p.pos < p.cells.length ∧ 1000000000000000000 ≤ c
      · obtain ⟨c3, c4⟩ := c3
        refine ⟨_, { p with pos := p.pos + 1, left := (c - 1000000000000000000) / span }, by simp [m_law_draw, c1, hs0, hs, ha, e0, hq, ixD_l, hc, c3, c4]; rfl, Int.emod_nonneg _ (by omega), Int.emod_lt_of_pos _ hs0, ⟨hp.len, by show 0 ≤ p.pos + 1; omega, by show p.pos + 1 ≤ k + 1; omega⟩⟩
      · by_cases c4 : p.pos < p.cells.length
        · have c5 : ¬ 1000000000000000000 ≤ c := fun z => c3 ⟨c4, z⟩
          refine ⟨_, { p with pos := p.pos + 1 }, by simp [m_law_draw, c1, hs0, hs, ha, e0, hq, ixD_l, hc, c4, c5]; rfl, Int.emod_nonneg _ (by omega), Int.emod_lt_of_pos _ hs0, ⟨hp.len, by show 0 ≤ p.pos + 1; omega, by show p.pos + 1 ≤ k + 1; omega⟩⟩
        · refine ⟨_, { p with pos := p.pos + 1 }, by simp [m_law_draw, c1, hs0, hs, ha, e0, hq, ixD_l, hc, c4]; rfl, Int.emod_nonneg _ (by omega), Int.emod_lt_of_pos _ hs0, ⟨hp.len, by show 0 ≤ p.pos + 1; omega, by show p.pos + 1 ≤ k + 1; omega⟩⟩
theorem ten_loop (cf : Cf) (S : Sto) : ∀ (j : Nat) (fu : Nat) (number : Nat) (made base : Int) (M B : Nat), number < 2 ^ j → j < fu → made.natAbs < 2 ^ M → base.natAbs < 2 ^ B → 0 < B → 0 < M → M + B * 2 ^ j ≤ 400000 + B →
    ∃ b', whileD (t_ten_to_0 cf) (w_ten_to_1 cf) fu [some (.int number), some (.int made), some (.int base)] S = .ok (.nx [some (.int 0), some (.int (made * base ^ number)), some (.int b')]) S
  | j, 0, number, made, base, M, B, h, hf, _, _, _, _, _ => absurd hf (Nat.not_lt_zero _)
  | 0, fu + 1, number, made, base, M, B, h, _, _, _, _, _, _ => by
    have : number = 0 := by simpa using h
    subst this
    exact ⟨base, by rw [whileD_K]; simp [t_ten_to_0_K]⟩
  | j + 1, fu + 1, number, made, base, M, B, h, hf, hm, hb, h0, h0', hl => by
    by_cases c : number = 0
    · subst c
      exact ⟨base, by rw [whileD_K]; simp [t_ten_to_0_K]⟩
    · have c1 : 0 < number := Nat.pos_of_ne_zero c
      have e2 : B * 2 ^ (j + 1) = 2 * (B * 2 ^ j) := by rw [Nat.pow_succ]; ac_rfl
      have e3 : (B + B) * 2 ^ j = 2 * (B * 2 ^ j) := by rw [← Nat.two_mul]; ac_rfl
      have l1 : B ≤ B * 2 ^ j := Nat.le_mul_of_pos_right _ Nat.one_le_two_pow
      have sq : ∀ S, bop .Mult S (.int base) (.int base) = some (.int (base * base)) := fun S => bop_mul_b B B hb hb h0 h0 (by omega)
      have mb : ∀ S, bop .Mult S (.int made) (.int base) = some (.int (made * base)) := fun S => bop_mul_b M B hm hb h0' h0 (by omega)
      have sb := mul_sz hb hb
      have sm := mul_sz hm hb
      have hh : number / 2 < 2 ^ j := by rw [Nat.pow_succ] at h; omega
      have en : ((number : Int) / 2) = ((number / 2 : Nat) : Int) := by omega
      have ep : base ^ number = base ^ (number % 2) * (base * base) ^ (number / 2) := by
        have : base * base = base ^ 2 := by rw [Int.pow_succ, Int.pow_succ, Int.pow_zero, Int.one_mul]
        rw [this, ← Int.pow_mul, ← Int.pow_add]
        congr 1
        omega
      by_cases d : number % 2 = 1
      · obtain ⟨b', e⟩ := ten_loop cf S j fu (number / 2) (made * base) (base * base) (M + B) (B + B) hh (by omega) sm sb (by omega) (by omega) (by omega)
        refine ⟨b', ?_⟩
        rw [whileD_K]
        have d' : ((number : Int) % 2) = 1 := by omega
        have er : made * base ^ number = made * base * (base * base) ^ (number / 2) := by rw [ep, d, Int.pow_succ, Int.pow_zero, Int.one_mul, Int.mul_assoc]
        rw [er, ← e, ← en]
        simp [t_ten_to_0_K, w_ten_to_1_K, c1, d', sq, mb]
      · obtain ⟨b', e⟩ := ten_loop cf S j fu (number / 2) made (base * base) M (B + B) hh (by omega) hm sb (by omega) h0' (by omega)
        refine ⟨b', ?_⟩
        rw [whileD_K]
        have d' : ((number : Int) % 2) = 0 := by omega
        have er : made * base ^ number = made * (base * base) ^ (number / 2) := by rw [ep, show number % 2 = 0 by omega, Int.pow_zero, Int.one_mul]
        rw [er, ← e, ← en]
        simp [t_ten_to_0_K, w_ten_to_1_K, c1, d', sq]
theorem ten_to_ok {n : Nat} (hn : 1 ≤ n) (k : Nat) (hk : k < 4096) (S : Sto) : C n ("ten_to", none) [.int k] S = .ok (.int (10 ^ k)) S := by
  rw [s_ten_to hn]
  obtain ⟨b', e⟩ := ten_loop (C (n - 1)) S 12 100 k 1 10 1 4 hk (by decide) (by decide) (by decide) (by decide) (by decide) (by decide)
  simp [m_ten_to, e]
theorem need_integer_ok {n : Nat} (hn : 2 ≤ n) (i : Int) (S : Sto) : C n ("need_integer", none) [.int i] S = .ok .non S := by
  rw [s_need_integer (by omega)]
  simp [m_need_integer, is_integer_int (n := n - 1) (by omega)]
theorem need_whole_ok {n : Nat} (hn : 3 ≤ n) (i : Int) (h : 0 ≤ i) (S : Sto) : C n ("need_whole", none) [.int i] S = .ok .non S := by
  rw [s_need_whole (by omega)]
  simp [m_need_whole, is_whole_int (n := n - 1) (by omega), h]
theorem low_loop (cf : Cf) (S : Sto) : ∀ (k fu : Nat) (u : Int), k < fu → whileD (t_lowered_0 cf) (w_lowered_1 cf) fu [some (.int u), some (.int k)] S = .ok (.nx [some (.int (low u k).1), some (.int (low u k).2)]) S
  | _, 0, u, h => absurd h (Nat.not_lt_zero _)
  | 0, fu + 1, u, _ => by rw [whileD_K]; simp [t_lowered_0_K, low]
  | k + 1, fu + 1, u, h => by
    have ih := low_loop cf S k fu (u / 10) (by omega)
    have c1 : (0 : Int) < ((k + 1 : Nat) : Int) := by omega
    have e1 : (((k + 1 : Nat) : Int) - 1) = (k : Int) := by omega
    rw [whileD_K]
    unfold low
    by_cases c : u % 10 = 0
    · rw [if_pos c]
      simp only [t_lowered_0_K, w_lowered_1_K, tAn_K, tOf_K, eBin_K, eVar_K, eC_ok, binK_ok, binK2_ok, List.getElem?_cons_zero, List.getElem?_cons_succ, varK_ok, cop_gt, opt_some, tofK_ok, truth_bl, decide_eq_true c1, tanK_t, cop_eq, decide_eq_true c]
      simp [w_lowered_1_K, c, ih]
    · rw [if_neg c]
      simp only [t_lowered_0_K, w_lowered_1_K, tAn_K, tOf_K, eBin_K, eVar_K, eC_ok, binK_ok, binK2_ok, List.getElem?_cons_zero, List.getElem?_cons_succ, varK_ok, cop_gt, opt_some, tofK_ok, truth_bl, decide_eq_true c1, tanK_t, cop_eq, decide_eq_true c]
      simp [c]
theorem low_zero : ∀ k : Nat, low 0 k = (0, 0)
  | 0 => rfl
  | k + 1 => by unfold low; simp [low_zero k]
theorem lowered_ok {n : Nat} (hn : 1 ≤ n) (u : Int) (k : Nat) (hk : k < 99) (S : Sto) : C n ("lowered", none) [.int u, .int k] S = .ok (.tup [.int (low u k).1, .int (low u k).2]) S := by
  rw [s_lowered hn]
  by_cases c : u = 0
  · subst c
    simp [m_lowered, low_zero]
  · simp [m_lowered, c, low_loop (C (n - 1)) S k 100 u (by omega)]
/-- a worth that lies as it was made -/
def wD (a b : Int) : D := .ins "Worth" [("units", .int a), ("scale", .int b)]
theorem wfld_u (a b : Int) (S : Sto) : fldD pd.pol.fld S "units" (wD a b) = some (.int a) := by kernel_rfl
theorem wfld_s (a b : Int) (S : Sto) : fldD pd.pol.fld S "scale" (wD a b) = some (.int b) := by kernel_rfl
theorem set_at (S : Sto) (c : Str) (fs : List (Str × D)) (f : Str) (i : Int) (hc : pd.pol.fld c f = true) (h : fs.length < 900) : setFld pd.pol.fld (S ++ [.ins c fs]) f (.mu S.length) (.int i) = some (S ++ [.ins c (Pv.putF f (.int i) fs)]) := by
  unfold setFld
  simp [hc, h]
theorem init_ok {n : Nat} (hn : 4 ≤ n) (u : Int) (k : Nat) (hk : k < 99) (S : Sto) : C n ("Worth", some "__init__") [.mu S.length, .int u, .int k] (S ++ [.ins "Worth" []]) = .ok .non (S ++ [.ins "Worth" [("units", .int (low u k).1), ("scale", .int (low u k).2)]]) := by
  rw [s_Worth_init (by omega)]
  have f1 : pd.pol.fld "Worth" "units" = true := by decide +kernel
  have f2 : pd.pol.fld "Worth" "scale" = true := by decide +kernel
  have p1 : ∀ a : Int, Pv.putF ("units" : Str) (D.int a) [] = ([("units", D.int a)] : List (Str × D)) := fun a => rfl
  have p2 : ∀ a b : Int, Pv.putF ("scale" : Str) (D.int b) ([("units", D.int a)] : List (Str × D)) = ([("units", D.int a), ("scale", D.int b)] : List (Str × D)) := fun a b => by kernel_rfl
  simp [m_Worth_init, need_integer_ok (n := n - 1) (by omega), need_whole_ok (n := n - 1) (by omega), lowered_ok (n := n - 1) (by omega) u k hk, set_at, f1, f2, p1, p2, List.take_of_length_le]
/-- Worth(u, k), as an expression makes it -/
def wOf (u : Int) (k : Nat) : D := wD (low u k).1 (low u k).2
theorem make_ok {n : Nat} (hn : 4 ≤ n) (u : Int) (k : Nat) (hk : k < 99) (S : Sto) : made "Worth" S.length (C n ("Worth", some "__init__") [.mu S.length, .int u, .int k] (S ++ [.ins "Worth" []])) = .ok (wOf u k) S := by
  rw [init_ok hn u k hk S, made_new]
  rfl
theorem make0_ok {n : Nat} (hn : 4 ≤ n) (u : Int) (S : Sto) : made "Worth" S.length (C n ("Worth", some "__init__") [.mu S.length, .int u, .int 0] (S ++ [.ins "Worth" []])) = .ok (wOf u 0) S := make_ok hn u 0 (by decide) S
theorem units_at_ok {n : Nat} (hn : 4 ≤ n) (a : Int) (b s : Nat) (h : b ≤ s) (hs : s < 4000) (ha : a.natAbs < 2 ^ 100000) (S : Sto) : C n ("Worth", some "units_at") [wD a b, .int s] S = .ok (.int (a * 10 ^ (s - b))) S := by
  rw [s_Worth_units_at (by omega)]
  have c1 : ¬ (s : Int) < b := by omega
  have e1 : (s : Int) - b = ((s - b : Nat) : Int) := by omega
  have t1 := ten_to_ok (n := n - 1) (by omega) (s - b) (by omega)
  have m1 : ∀ S, bop .Mult S (.int a) (.int (10 ^ (s - b))) = some (.int (a * 10 ^ (s - b))) := fun S => bop_mul_b 100000 16000 ha (by
    have h1 : ((10 : Int) ^ (s - b)).natAbs = 10 ^ (s - b) := by rw [Int.natAbs_pow]; rfl
    rw [h1]
    calc 10 ^ (s - b) < 16 ^ (s - b + 1) := Nat.lt_of_lt_of_le (Nat.lt_of_le_of_lt (Nat.pow_le_pow_left (by decide) _) (Nat.pow_lt_pow_right (by decide) (Nat.lt_succ_self _))) (Nat.le_refl _)
      _ = 2 ^ (4 * (s - b + 1)) := by rw [Nat.pow_mul]
      _ ≤ 2 ^ 16000 := Nat.pow_le_pow_right (by decide) (by omega)) (by decide) (by decide) (by decide)
  simp [m_Worth_units_at, need_whole_ok (n := n - 1) (by omega), wfld_s, wfld_u, c1, e1, t1, m1]
end K49

set_option Elab.async false
set_option linter.all false
set_option maxRecDepth 100000
set_option maxHeartbeats 1000000
/-! Pv, part Q: the nine ways of rounding, plainly. -/
namespace Pv
open PySem L2
open PyProof.Rows hiding St
inductive Way where
  | floor | ceiling | cut | away | halfup | halfdown | halfeven | halfaway | halfcut
  deriving DecidableEq
def Way.s : Way → Str
  | .floor => "floor" | .ceiling => "ceiling" | .cut => "cut" | .away => "away" | .halfup => "halfup" | .halfdown => "halfdown" | .halfeven => "halfeven" | .halfaway => "halfaway" | .halfcut => "halfcut"
section
variable {S : Sto} {w : Way}
@[simp] theorem way_floor : cop .Eq S (.str w.s) (.str "floor") = some (.bl (decide (w = .floor))) := by cases w <;> kernel_rfl
@[simp] theorem way_ceiling : cop .Eq S (.str w.s) (.str "ceiling") = some (.bl (decide (w = .ceiling))) := by cases w <;> kernel_rfl
@[simp] theorem way_cut : cop .Eq S (.str w.s) (.str "cut") = some (.bl (decide (w = .cut))) := by cases w <;> kernel_rfl
@[simp] theorem way_away : cop .Eq S (.str w.s) (.str "away") = some (.bl (decide (w = .away))) := by cases w <;> kernel_rfl
@[simp] theorem way_halfup : cop .Eq S (.str w.s) (.str "halfup") = some (.bl (decide (w = .halfup))) := by cases w <;> kernel_rfl
@[simp] theorem way_halfdown : cop .Eq S (.str w.s) (.str "halfdown") = some (.bl (decide (w = .halfdown))) := by cases w <;> kernel_rfl
@[simp] theorem way_halfeven : cop .Eq S (.str w.s) (.str "halfeven") = some (.bl (decide (w = .halfeven))) := by cases w <;> kernel_rfl
@[simp] theorem way_halfaway : cop .Eq S (.str w.s) (.str "halfaway") = some (.bl (decide (w = .halfaway))) := by cases w <;> kernel_rfl
@[simp] theorem way_halfcut : cop .Eq S (.str w.s) (.str "halfcut") = some (.bl (decide (w = .halfcut))) := by cases w <;> kernel_rfl
@[simp] theorem way_in : cop .NotIn S (.str w.s) (.tup [.str "floor", .str "ceiling", .str "cut", .str "away", .str "halfup", .str "halfdown", .str "halfeven", .str "halfaway", .str "halfcut"]) = some (.bl false) := by cases w <;> kernel_rfl
@[simp] theorem cop_eqb {a b : Bool} : cop .Eq S (.bl a) (.bl b) = some (.bl (a == b)) := by kernel_rfl
end
def bI (b : Bool) : Int := if b then 1 else 0
def partI (l u : Int) : Int := if l = 0 then 0 else 2 + bI (decide (u < 2 * l)) - bI (decide (2 * l < u))
def liftI (w : Way) (p : Int) (neg odd : Bool) : Int := if p = 0 then 0 else match w with
  | .floor => 0
  | .ceiling => 1
  | .cut => bI neg
  | .away => bI (!neg)
  | .halfup => if p = 2 then 1 else bI (decide (p = 3))
  | .halfdown => if p = 2 then 0 else bI (decide (p = 3))
  | .halfeven => if p = 2 then bI odd else bI (decide (p = 3))
  | .halfaway => if p = 2 then bI (!neg) else bI (decide (p = 3))
  | .halfcut => if p = 2 then bI neg else bI (decide (p = 3))
/-- x over u, rounded -/
def R (w : Way) (x u : Int) : Int := x / u + liftI w (partI (x % u) u) (decide (x < 0)) (decide (x / u % 2 = 1))
/-- the law's own rounding -/
def R' (w : Way) (x u : Int) : Int := if x % u = 0 ∨ w = .floor then x / u else match w with
  | .floor => x / u
  | .ceiling => x / u + 1
  | .cut => x / u + bI (decide (x < 0) == true)
  | .away => x / u + bI (decide (x < 0) == false)
  | w => if 2 * (x % u) ≠ u then x / u + bI (decide (u < 2 * (x % u))) else match w with
    | .halfeven => x / u + x / u % 2
    | .halfup => x / u + 1
    | .halfdown => x / u
    | .halfaway => x / u + bI (decide (x < 0) == false)
    | .halfcut => x / u + bI (decide (x < 0) == true)
    | _ => 0
theorem part_ne {l u : Int} (h : l ≠ 0) : partI l u ≠ 0 := by
  unfold partI bI
  rw [if_neg h]
  split <;> split <;> omega
theorem part_2 {l u : Int} (h : l ≠ 0) : partI l u = 2 ↔ 2 * l = u := by
  unfold partI bI
  rw [if_neg h]
  by_cases c1 : u < 2 * l <;> by_cases c2 : 2 * l < u <;> simp [c1, c2] <;> omega
theorem part_3 {l u : Int} (h : l ≠ 0) : partI l u = 3 ↔ u < 2 * l := by
  unfold partI bI
  rw [if_neg h]
  by_cases c1 : u < 2 * l <;> by_cases c2 : 2 * l < u <;> simp [c1, c2] <;> omega
theorem R_eq (w : Way) (x u : Int) : R' w x u = R w x u := by
  unfold R' R liftI
  by_cases c : x % u = 0
  · simp [c, partI]
  · have p1 := part_ne (u := u) c
    have p2 := part_2 (u := u) c
    have p3 := part_3 (u := u) c
    rw [if_neg p1]
    cases w <;> simp [c, p2, p3, bI]
    all_goals first | done | (by_cases z : 2 * (x % u) = u <;> simp [z]) | skip
    all_goals first | done | (split <;> omega) | (cases decide (x < 0) <;> simp) | skip
end Pv

set_option Elab.async false
set_option linter.all false
set_option maxRecDepth 100000
set_option maxHeartbeats 1000000
/-! Pv, part R: running totals, plainly. -/
namespace Pv
def iter (f : Int → Int) : Nat → Int → Int
  | 0, x => x
  | n + 1, x => iter f n (f x)
theorem iter_add (f : Int → Int) : ∀ (m n : Nat) (x : Int), iter f (m + n) x = iter f n (iter f m x)
  | 0, n, x => by rw [Nat.zero_add]; rfl
  | m + 1, n, x => by
    rw [show m + 1 + n = (m + n) + 1 by omega]
    exact iter_add f m n (f x)
theorem iter_succ (f : Int → Int) (n : Nat) (x : Int) : iter f (n + 1) x = f (iter f n x) := iter_add f n 1 x
theorem iter_comm (f : Int → Int) (m n : Nat) (x : Int) : iter f m (iter f n x) = iter f n (iter f m x) := by rw [← iter_add, ← iter_add, Nat.add_comm]
theorem ediv_parts {q u r : Int} (hu : 0 < u) (h0 : 0 ≤ r) (h1 : r < u) : (q * u + r) / u = q ∧ (q * u + r) % u = r := by
  constructor
  · rw [Int.add_comm, Int.add_mul_ediv_right _ _ (by omega), Int.ediv_eq_zero_of_lt h0 h1, Int.zero_add]
  · rw [Int.add_comm, Int.add_mul_emod_self_right]
    exact Int.emod_eq_of_lt h0 h1
theorem neg_parts {q u r : Int} (hu : 0 < u) (h0 : 0 ≤ r) (h1 : r < u) : q * u + r < 0 ↔ q < 0 := by
  constructor
  · intro h
    rcases Int.lt_or_le q 0 with c | c
    · exact c
    · have := Int.mul_nonneg c (Int.le_of_lt hu)
      omega
  · intro h
    have : q * u ≤ (-1) * u := Int.mul_le_mul_of_nonneg_right (by omega) (Int.le_of_lt hu)
    omega
theorem R_parts (w : Way) {q u r : Int} (hu : 0 < u) (h0 : 0 ≤ r) (h1 : r < u) : R w (q * u + r) u = q + liftI w (partI r u) (decide (q < 0)) (decide (q % 2 = 1)) := by
  unfold R
  obtain ⟨e1, e2⟩ := ediv_parts (q := q) hu h0 h1
  rw [e1, e2, decide_eq_decide.mpr (neg_parts hu h0 h1)]
def looseB (w : Way) (r u : Int) : Bool := match w with
  | .cut => decide (r ≠ 0)
  | .away => decide (r ≠ 0)
  | .halfeven => decide (2 * r = u)
  | .halfaway => decide (2 * r = u)
  | .halfcut => decide (2 * r = u)
  | _ => false
theorem lift_firm {w : Way} {r u : Int} (hu : 0 < u) (h : looseB w r u = false) (a b c d : Bool) : liftI w (partI r u) a b = liftI w (partI r u) c d := by
  unfold liftI
  by_cases z : r = 0
  · simp [z, partI]
  · have p2 := part_2 (u := u) z
    rw [if_neg (part_ne z), if_neg (part_ne z)]
    cases w <;> simp [looseB, z] at h ⊢ <;> simp [p2, h]
def driftI (st fl : Int) (n : Int) (above below : Int) : Int :=
  if 0 ≤ st + fl then (if above < 0 then st + (if (st + fl) / (0 - above) + 1 < n then (st + fl) / (0 - above) + 1 else n) * above + (n - (if (st + fl) / (0 - above) + 1 < n then (st + fl) / (0 - above) + 1 else n)) * below else st + n * above + (n - n) * below)
  else (if 0 < below then st + (if (0 - st - fl - 1) / below + 1 < n then (0 - st - fl - 1) / below + 1 else n) * below + (n - (if (0 - st - fl - 1) / below + 1 < n then (0 - st - fl - 1) / below + 1 else n)) * above else st + n * below + (n - n) * above)
def drf (fl above below : Int) (st : Int) : Int := if 0 ≤ st + fl then st + above else st + below
theorem drf_up {fl above below : Int} (h : 0 ≤ above) : ∀ (n : Nat) (st : Int), 0 ≤ st + fl → iter (drf fl above below) n st = st + n * above
  | 0, st, _ => by simp [iter]
  | n + 1, st, c => by
    show iter (drf fl above below) n (drf fl above below st) = _
    have e : drf fl above below st = st + above := if_pos c
    rw [e, drf_up h n (st + above) (by omega)]
    have : ((n + 1 : Nat) : Int) * above = n * above + above := by rw [Int.natCast_succ, Int.add_mul, Int.one_mul]
    omega
theorem drf_dn {fl above below : Int} (h : below ≤ 0) : ∀ (n : Nat) (st : Int), st + fl < 0 → iter (drf fl above below) n st = st + n * below
  | 0, st, _ => by simp [iter]
  | n + 1, st, c => by
    show iter (drf fl above below) n (drf fl above below st) = _
    have e : drf fl above below st = st + below := if_neg (by omega)
    rw [e, drf_dn h n (st + below) (by omega)]
    have : ((n + 1 : Nat) : Int) * below = n * below + below := by rw [Int.natCast_succ, Int.add_mul, Int.one_mul]
    omega
theorem div_step {a b : Int} (hb : 0 < b) : (a - b) / b = a / b - 1 := by
  rw [show a - b = a + (-1) * b by omega, Int.add_mul_ediv_right _ _ (by omega)]
  rfl
theorem ite_min {k n : Int} : (if k < n then k else n) = min k n := by
  by_cases c : k < n
  · rw [if_pos c]; omega
  · rw [if_neg c]; omega
theorem drf_C {fl above below : Int} (h : above < 0) (hb : below ≤ 0) : ∀ (n : Nat) (st : Int), 0 ≤ st + fl → iter (drf fl above below) n st = st + min ((st + fl) / (0 - above) + 1) n * above + (n - min ((st + fl) / (0 - above) + 1) n) * below
  | 0, st, c => by
    have : 0 ≤ (st + fl) / (0 - above) := Int.ediv_nonneg c (by omega)
    rw [show min ((st + fl) / (0 - above) + 1) ((0 : Nat) : Int) = 0 by omega]
    simp [iter]
  | n + 1, st, c => by
    have k0 : 0 ≤ (st + fl) / (0 - above) := Int.ediv_nonneg c (by omega)
    show iter (drf fl above below) n (drf fl above below st) = _
    have e : drf fl above below st = st + above := if_pos c
    rw [e]
    by_cases c2 : 0 ≤ st + above + fl
    · rw [drf_C h hb n (st + above) c2]
      have ek : (st + above + fl) / (0 - above) = (st + fl) / (0 - above) - 1 := by
        rw [← div_step (a := st + fl) (b := 0 - above) (by omega)]
        congr 1
        omega
      rw [ek, show min ((st + fl) / (0 - above) + 1) ((n + 1 : Nat) : Int) = min ((st + fl) / (0 - above) - 1 + 1) (n : Int) + 1 by omega]
      generalize min ((st + fl) / (0 - above) - 1 + 1) (n : Int) = m
      rw [Int.add_mul, Int.one_mul, show ((n + 1 : Nat) : Int) - (m + 1) = n - m by omega]
      omega
    · have ek : (st + fl) / (0 - above) = 0 := Int.ediv_eq_zero_of_lt c (by omega)
      rw [drf_dn hb n (st + above) (by omega), ek, show min ((0 : Int) + 1) ((n + 1 : Nat) : Int) = 1 by omega, Int.one_mul, show ((n + 1 : Nat) : Int) - 1 = n by omega]
theorem drf_D {fl above below : Int} (h : 0 < below) (hb : 0 ≤ above) : ∀ (n : Nat) (st : Int), st + fl < 0 → iter (drf fl above below) n st = st + min ((0 - st - fl - 1) / below + 1) n * below + (n - min ((0 - st - fl - 1) / below + 1) n) * above
  | 0, st, c => by
    have : 0 ≤ (0 - st - fl - 1) / below := Int.ediv_nonneg (by omega) (by omega)
    rw [show min ((0 - st - fl - 1) / below + 1) ((0 : Nat) : Int) = 0 by omega]
    simp [iter]
  | n + 1, st, c => by
    have k0 : 0 ≤ (0 - st - fl - 1) / below := Int.ediv_nonneg (by omega) (by omega)
    show iter (drf fl above below) n (drf fl above below st) = _
    have e : drf fl above below st = st + below := if_neg (by omega)
    rw [e]
    by_cases c2 : st + below + fl < 0
    · rw [drf_D h hb n (st + below) c2]
      have ek : (0 - (st + below) - fl - 1) / below = (0 - st - fl - 1) / below - 1 := by
        rw [← div_step (a := 0 - st - fl - 1) (b := below) h]
        congr 1
        omega
      rw [ek, show min ((0 - st - fl - 1) / below + 1) ((n + 1 : Nat) : Int) = min ((0 - st - fl - 1) / below - 1 + 1) (n : Int) + 1 by omega]
      generalize min ((0 - st - fl - 1) / below - 1 + 1) (n : Int) = m
      rw [Int.add_mul, Int.one_mul, show ((n + 1 : Nat) : Int) - (m + 1) = n - m by omega]
      omega
    · have ek : (0 - st - fl - 1) / below = 0 := Int.ediv_eq_zero_of_lt (by omega) (by omega)
      rw [drf_up hb n (st + below) (by omega), ek, show min ((0 : Int) + 1) ((n + 1 : Nat) : Int) = 1 by omega, Int.one_mul, show ((n + 1 : Nat) : Int) - 1 = n by omega]
theorem drift_iter {st fl above below : Int} (n : Nat) (h1 : above < 0 → below ≤ 0) (h2 : 0 < below → 0 ≤ above) : driftI st fl n above below = iter (drf fl above below) n st := by
  unfold driftI
  by_cases c : 0 ≤ st + fl
  · rw [if_pos c]
    by_cases d : above < 0
    · rw [if_pos d, ite_min, drf_C d (h1 d) n st c]
    · rw [if_neg d, drf_up (by omega) n st c, Int.sub_self, Int.zero_mul, Int.add_zero]
  · rw [if_neg c]
    by_cases d : 0 < below
    · rw [if_pos d, ite_min, drf_D d (h2 d) n st (by omega)]
    · rw [if_neg d, drf_dn (by omega) n st (by omega), Int.sub_self, Int.zero_mul, Int.add_zero]
/-- what added reckons -/
def addI (w : Way) (st fl r u : Int) (n : Nat) : Int := if n = 0 then st else if looseB w r u = false then st + n * R w (fl * u + r) u
  else if w = .halfeven then (st + fl + (st + fl) % 2) + ((n : Int) - 1) * (fl + fl % 2)
  else if w = .cut ∨ w = .halfcut then driftI st fl n fl (fl + 1) else driftI st fl n (fl + 1) fl
def stp (w : Way) (u one : Int) (st : Int) : Int := R w (st * u + one) u
theorem iter_congr {f g : Int → Int} (h : ∀ x, f x = g x) (n : Nat) (x : Int) : iter f n x = iter g n x := by
  have : f = g := funext h
  rw [this]
theorem iter_plus (c : Int) : ∀ (n : Nat) (x : Int), iter (fun st => st + c) n x = x + n * c
  | 0, x => by simp [iter]
  | n + 1, x => by
    show iter (fun st => st + c) n (x + c) = _
    rw [iter_plus c n]
    have : ((n + 1 : Nat) : Int) * c = n * c + c := by rw [Int.natCast_succ, Int.add_mul, Int.one_mul]
    omega
theorem stp_parts (w : Way) {u fl r st : Int} (hu : 0 < u) (h0 : 0 ≤ r) (h1 : r < u) : stp w u (fl * u + r) st = st + fl + liftI w (partI r u) (decide (st + fl < 0)) (decide ((st + fl) % 2 = 1)) := by
  unfold stp
  rw [show st * u + (fl * u + r) = (st + fl) * u + r by rw [Int.add_mul]; omega, R_parts w hu h0 h1]
theorem iter_even (fl : Int) : ∀ (n : Nat) (x : Int), x % 2 = 0 → iter (fun st => st + fl + (st + fl) % 2) n x = x + n * (fl + fl % 2)
  | 0, x, _ => by simp [iter]
  | n + 1, x, h => by
    show iter (fun st => st + fl + (st + fl) % 2) n (x + fl + (x + fl) % 2) = _
    have e : x + fl + (x + fl) % 2 = x + (fl + fl % 2) := by omega
    rw [e, iter_even fl n _ (by omega)]
    have : ((n + 1 : Nat) : Int) * (fl + fl % 2) = n * (fl + fl % 2) + (fl + fl % 2) := by rw [Int.natCast_succ, Int.add_mul, Int.one_mul]
    omega
theorem add_iter (w : Way) {u fl r : Int} (st : Int) (n : Nat) (hu : 0 < u) (h0 : 0 ≤ r) (h1 : r < u) : addI w st fl r u n = iter (stp w u (fl * u + r)) n st := by
  unfold addI
  by_cases c0 : n = 0
  · rw [if_pos c0, c0]; rfl
  rw [if_neg c0]
  by_cases cl : looseB w r u = false
  · rw [if_pos cl]
    have e : ∀ x, stp w u (fl * u + r) x = x + R w (fl * u + r) u := fun x => by
      rw [stp_parts w hu h0 h1, R_parts w hu h0 h1, lift_firm hu cl (decide (x + fl < 0)) (decide ((x + fl) % 2 = 1)) (decide (fl < 0)) (decide (fl % 2 = 1))]
      omega
    rw [iter_congr e, iter_plus]
  · rw [if_neg cl]
    have cl' : looseB w r u = true := by simpa using cl
    have rn : r ≠ 0 := fun z => by
      rw [z] at cl'
      cases w <;> simp [looseB] at cl' <;> omega
    have p1 := part_ne (u := u) rn
    have p2 := part_2 (u := u) rn
    by_cases c1 : w = .halfeven
    · rw [if_pos c1]
      subst c1
      have t : 2 * r = u := by simpa [looseB] using cl'
      have e : ∀ x, stp .halfeven u (fl * u + r) x = x + fl + (x + fl) % 2 := fun x => by
        rw [stp_parts _ hu h0 h1]
        unfold liftI bI
        rw [if_neg p1]
        simp only [p2.mpr t, if_true]
        by_cases z : (x + fl) % 2 = 1
        · simp [z]
        · simp [z]; omega
      obtain ⟨m, rfl⟩ : ∃ m, n = m + 1 := ⟨n - 1, by omega⟩
      rw [iter_congr e]
      show _ = iter (fun st => st + fl + (st + fl) % 2) m (st + fl + (st + fl) % 2)
      rw [iter_even fl m _ (by omega), show ((m + 1 : Nat) : Int) - 1 = m by omega]
    · rw [if_neg c1]
      by_cases c2 : w = .cut ∨ w = .halfcut
      · rw [if_pos c2, drift_iter n (by omega) (by omega)]
        refine (iter_congr (fun x => ?_) n st).symm
        rw [stp_parts _ hu h0 h1]
        unfold drf liftI bI
        rw [if_neg p1]
        rcases c2 with rfl | rfl
        · by_cases z : x + fl < 0
          · simp [z, show ¬ 0 ≤ x + fl by omega]; omega
          · simp [z, show 0 ≤ x + fl by omega]
        · have t : 2 * r = u := by simpa [looseB] using cl'
          simp only [p2.mpr t, if_true]
          by_cases z : x + fl < 0
          · simp [z, show ¬ 0 ≤ x + fl by omega]; omega
          · simp [z, show 0 ≤ x + fl by omega]
      · rw [if_neg c2, drift_iter n (by omega) (by omega)]
        refine (iter_congr (fun x => ?_) n st).symm
        rw [stp_parts _ hu h0 h1]
        unfold drf liftI bI
        rw [if_neg p1]
        have c3 : w = .away ∨ w = .halfaway := by
          cases w <;> simp [looseB] at cl' c1 c2 ⊢
        rcases c3 with rfl | rfl
        · by_cases z : x + fl < 0
          · simp [z, show ¬ 0 ≤ x + fl by omega]
          · simp [z, show 0 ≤ x + fl by omega]; omega
        · have t : 2 * r = u := by simpa [looseB] using cl'
          simp only [p2.mpr t, if_true]
          by_cases z : x + fl < 0
          · simp [z, show ¬ 0 ≤ x + fl by omega]
          · simp [z, show 0 ≤ x + fl by omega]; omega
theorem lift_01 (w : Way) (p : Int) (a b : Bool) : 0 ≤ liftI w p a b ∧ liftI w p a b ≤ 1 := by
  unfold liftI bI
  split
  · omega
  · cases w <;> simp <;> (try split) <;> (try split) <;> omega
theorem R_near (w : Way) (x u : Int) : x / u ≤ R w x u ∧ R w x u ≤ x / u + 1 := by
  have := lift_01 w (partI (x % u) u) (decide (x < 0)) (decide (x / u % 2 = 1))
  unfold R
  omega
theorem stp_near (w : Way) {u : Int} (one st : Int) (hu : 0 < u) : st + one / u ≤ stp w u one st ∧ stp w u one st ≤ st + one / u + 1 := by
  have h := R_near w (st * u + one) u
  have e : (st * u + one) / u = st + one / u := by rw [Int.add_comm, Int.add_mul_ediv_right _ _ (by omega), Int.add_comm]
  unfold stp
  omega
theorem iter_near (w : Way) {u : Int} (one : Int) (hu : 0 < u) : ∀ (n : Nat) (st : Int), st + n * (one / u) ≤ iter (stp w u one) n st ∧ iter (stp w u one) n st ≤ st + n * (one / u + 1)
  | 0, st => by simp [iter]
  | n + 1, st => by
    have h1 := stp_near w one st hu
    have h2 := iter_near w one hu n (stp w u one st)
    show _ ≤ iter (stp w u one) n (stp w u one st) ∧ iter (stp w u one) n (stp w u one st) ≤ _
    have e1 : ((n + 1 : Nat) : Int) * (one / u) = n * (one / u) + one / u := by rw [Int.natCast_succ, Int.add_mul, Int.one_mul]
    have e2 : ((n + 1 : Nat) : Int) * (one / u + 1) = n * (one / u + 1) + (one / u + 1) := by rw [Int.natCast_succ, Int.add_mul, Int.one_mul]
    omega
theorem iter_sz (w : Way) {u one st : Int} {n : Nat} {a b k : Nat} (hu : 0 < u) (hn : n < 2 ^ a) (ho : (one / u).natAbs < 2 ^ b) (hs : st.natAbs < 2 ^ k) (hk : a + b + 1 ≤ k) : (iter (stp w u one) n st).natAbs < 2 ^ (k + 1) := by
  have h := iter_near w one hu n st
  have s1 : ((n : Int) * (one / u)).natAbs < 2 ^ (a + b) := mul_sz (by simpa using hn) ho
  have s2 : ((n : Int) * (one / u + 1)).natAbs < 2 ^ (a + (b + 1)) := mul_sz (by simpa using hn) (by
    have := Nat.pow_succ (n := 2) (m := b)
    have h1 : 1 ≤ 2 ^ b := Nat.one_le_two_pow
    omega)
  have t1 := sz_mono s1 (show a + b ≤ k by omega)
  have t2 := sz_mono s2 (show a + (b + 1) ≤ k by omega)
  have := Nat.pow_succ (n := 2) (m := k)
  omega
theorem part_scale {c l u : Int} (hc : 0 < c) : partI (c * l) (c * u) = partI l u := by
  unfold partI
  have e1 : c * l = 0 ↔ l = 0 := by
    constructor
    · intro h
      rcases Int.mul_eq_zero.mp h with z | z
      · omega
      · exact z
    · intro h; rw [h, Int.mul_zero]
  have e2 : c * u < 2 * (c * l) ↔ u < 2 * l := by
    rw [show 2 * (c * l) = c * (2 * l) by rw [← Int.mul_assoc, Int.mul_comm 2 c, Int.mul_assoc]]
    exact Int.mul_lt_mul_left hc
  have e3 : 2 * (c * l) < c * u ↔ 2 * l < u := by
    rw [show 2 * (c * l) = c * (2 * l) by rw [← Int.mul_assoc, Int.mul_comm 2 c, Int.mul_assoc]]
    exact Int.mul_lt_mul_left hc
  simp only [e1, e2, e3]
theorem R_scale (w : Way) {c x u : Int} (hc : 0 < c) : R w (c * x) (c * u) = R w x u := by
  unfold R
  have e1 : c * x / (c * u) = x / u := Int.mul_ediv_mul_of_pos _ _ hc
  have e2 : c * x % (c * u) = c * (x % u) := Int.mul_emod_mul_of_pos _ _ hc
  have e3 : c * x < 0 ↔ x < 0 := by
    constructor
    · intro h
      rcases Int.lt_or_le x 0 with z | z
      · exact z
      · have := Int.mul_nonneg (Int.le_of_lt hc) z
        omega
    · intro h
      exact Int.mul_neg_of_pos_of_neg hc h
  rw [e1, e2, part_scale hc, decide_eq_decide.mpr e3]
theorem stp_scale (w : Way) {c u one : Int} (hc : 0 < c) (st : Int) : stp w (c * u) (c * one) st = stp w u one st := by
  unfold stp
  rw [show st * (c * u) + c * one = c * (st * u + one) by rw [Int.mul_add, ← Int.mul_assoc, Int.mul_comm st c, Int.mul_assoc], R_scale w hc]
theorem low_spec : ∀ (k : Nat) (u : Int), (low u k).2 ≤ k ∧ u = (low u k).1 * 10 ^ (k - (low u k).2) ∧ (low u k).1.natAbs ≤ u.natAbs
  | 0, u => by simp [low]
  | k + 1, u => by
    unfold low
    by_cases c : u % 10 = 0
    · rw [if_pos c]
      obtain ⟨h1, h2, h3⟩ := low_spec k (u / 10)
      refine ⟨by omega, ?_, by omega⟩
      have e : u = u / 10 * 10 := by omega
      rw [show k + 1 - (low (u / 10) k).2 = (k - (low (u / 10) k).2) + 1 by omega, Int.pow_succ, ← Int.mul_assoc, ← h2]
      exact e
    · rw [if_neg c]
      simp
/-- what split_worth reckons: the worth's own unit, its units at the scale -/
def unW (b sc : Nat) : Int := 10 ^ (b - sc)
def amW (a : Int) (b sc : Nat) : Int := a * 10 ^ (max sc b - b)
theorem un_pos (b sc : Nat) : 0 < unW b sc := Int.pow_pos (by decide)
/-- a worth made of one at sc + pl: the same steps as one over ten to the pl -/
theorem stp_worth (w : Way) (one : Int) (sc pl : Nat) (st : Int) : stp w (unW (low one (sc + pl)).2 sc) (amW (low one (sc + pl)).1 (low one (sc + pl)).2 sc) st = stp w (10 ^ pl) one st := by
  obtain ⟨h1, h2, _⟩ := low_spec (sc + pl) one
  generalize hb : (low one (sc + pl)).2 = b at *
  generalize ha : (low one (sc + pl)).1 = a at *
  have hc : (0 : Int) < 10 ^ (sc + pl - max sc b) := Int.pow_pos (by decide)
  rw [← stp_scale w hc st]
  have e1 : (10 : Int) ^ (sc + pl - max sc b) * unW b sc = 10 ^ pl := by
    unfold unW
    rw [← Int.pow_add]
    congr 1
    omega
  have e2 : (10 : Int) ^ (sc + pl - max sc b) * amW a b sc = one := by
    unfold amW
    rw [h2, Int.mul_comm, Int.mul_assoc, ← Int.pow_add]
    congr 2
    omega
  rw [e1, e2]
end Pv

set_option Elab.async false
set_option linter.all false
set_option maxRecDepth 100000
set_option maxHeartbeats 400000
namespace K49
open PySem L2 Pv
theorem lift_ok {n : Nat} (hn : 1 ≤ n) (w : Way) (p : Int) (neg odd : Bool) (S : Sto) : C n ("lift", none) [.str w.s, .int p, .bl neg, .bl odd] S = .ok (.int (liftI w p neg odd)) S := by
  rw [s_lift hn]
  by_cases c : p = 0
  · subst c
    simp [m_lift, liftI]
  · by_cases c2 : p = 2
    · subst c2
      have e : m_lift (C (n - 1)) (startD ["way", "part", "negative", "odd", "ties"] [.str w.s, .int 2, .bl neg, .bl odd]) S = .ok (.rt (.int (liftI w 2 neg odd))) S := by cases w <;> kernel_rfl
      rw [e]
      simp
    · cases w <;> simp [m_lift, liftI, c, c2, bI]
theorem part_of_ok {n : Nat} (hn : 1 ≤ n) (l u : Int) (S : Sto) : C n ("part_of", none) [.int l, .int u] S = .ok (.int (partI l u)) S := by
  rw [s_part_of hn]
  by_cases c : l = 0
  · subst c
    simp [m_part_of, partI]
  · simp [m_part_of, partI, c, bI]
theorem divided_by_ok {n : Nat} (hn : 2 ≤ n) (x u : Int) (w : Way) (h0 : 0 < u) (h1 : u.natAbs < 2 ^ 64) (S : Sto) : C n ("divided_by", none) [.int x, .int u, .str w.s] S = .ok (.int (R w x u)) S := by
  rw [s_divided_by (by omega)]
  simp [m_divided_by, bi_divmod_ok h0 h1, part_of_ok (n := n - 1) (by omega), lift_ok (n := n - 1) (by omega), R]
theorem need_way_ok {n : Nat} (hn : 1 ≤ n) (w : Way) (S : Sto) : C n ("need_way", none) [.str w.s] S = .ok .non S := by
  rw [s_need_way hn]
  simp [m_need_way]
theorem divided_ok {n : Nat} (hn : 3 ≤ n) (x u : Int) (w : Way) (h0 : 0 < u) (h1 : u.natAbs < 2 ^ 64) (S : Sto) : C n ("divided", none) [.int x, .int u, .str w.s] S = .ok (.int (R w x u)) S := by
  rw [s_divided (by omega)]
  simp [m_divided, need_integer_ok (n := n - 1) (by omega), is_integer_int (n := n - 1) (by omega), need_way_ok (n := n - 1) (by omega), divided_by_ok (n := n - 1) (by omega) x u w h0 h1, show ¬ u < 1 by omega]
theorem alone_ok {n : Nat} (hn : 4 ≤ n) (fl r u : Int) (w : Way) (h0 : 0 < u) (h1 : u.natAbs < 2 ^ 64) (S : Sto) : C n ("alone", none) [.int fl, .int r, .int u, .str w.s] S = .ok (.int (R w (fl * u + r) u)) S := by
  rw [s_alone (by omega)]
  simp [m_alone, divided_ok (n := n - 1) (by omega) _ u w h0 h1, bop_mul (mulOk_r h1)]
theorem is_loose_ok {n : Nat} (hn : 1 ≤ n) (r u : Int) (w : Way) (S : Sto) : C n ("is_loose", none) [.int r, .int u, .str w.s] S = .ok (.bl (looseB w r u)) S := by
  rw [s_is_loose hn]
  cases w <;> simp [m_is_loose, looseB]
theorem drifted_ok {n : Nat} (hn : 1 ≤ n) (st fl above below : Int) (t : Nat) (hs : st.natAbs < 2 ^ 2000) (hf : fl.natAbs < 2 ^ 2000) (ht : (t : Int).natAbs < 2 ^ 2000) (ha : above.natAbs < 2 ^ 2000) (hb : below.natAbs < 2 ^ 2000) (S : Sto) :
    C n ("drifted", none) [.int st, .int fl, .int t, .int above, .int below] S = .ok (.int (driftI st fl t above below)) S := by
  rw [s_drifted hn]
  have mA : ∀ (m : Int), 0 ≤ m → m ≤ t → ∀ (x : Int), x.natAbs < 2 ^ 2000 → ∀ S, bop .Mult S (.int m) (.int x) = some (.int (m * x)) := fun m h0 h1 x hx S => bop_mul_b 2000 2000 (by omega) hx (by decide) (by decide) (by decide)
  have t0 : (0 : Int) ≤ t := by omega
  unfold driftI
  by_cases c : 0 ≤ st + fl
  · rw [if_pos c]
    by_cases d : above < 0
    · rw [if_pos d]
      have dv : ∀ S, bop .FloorDiv S (.int (st + fl)) (.int (0 - above)) = some (.int ((st + fl) / (0 - above))) := fun S => bop_fdiv_b (by omega) 2000 (by omega) (by decide) (by decide)
      have k0 : 0 ≤ (st + fl) / (0 - above) := Int.ediv_nonneg c (by omega)
      generalize (st + fl) / (0 - above) = q at *
      simp only [Int.zero_sub] at dv
      by_cases z : q + 1 < t
      · simp only [if_pos z]
        have m1 := mA (q + 1) (by omega) (by omega) above ha
        have m2 := mA (t - (q + 1)) (by omega) (by omega) below hb
        simp [m_drifted, c, d, dv, z, m1, m2]
      · simp only [if_neg z]
        have m1 := mA t (by omega) (by omega) above ha
        simp [m_drifted, c, d, dv, z, m1]
    · rw [if_neg d]
      have m1 := mA t (by omega) (by omega) above ha
      simp [m_drifted, c, d, m1]
  · rw [if_neg c]
    by_cases d : 0 < below
    · rw [if_pos d]
      have dv : ∀ S, bop .FloorDiv S (.int (0 - st - fl - 1)) (.int below) = some (.int ((0 - st - fl - 1) / below)) := fun S => bop_fdiv_b (by omega) 2000 (by omega) (by decide) (by decide)
      have k0 : 0 ≤ (0 - st - fl - 1) / below := Int.ediv_nonneg (by omega) (by omega)
      generalize (0 - st - fl - 1) / below = q at *
      simp only [Int.zero_sub] at dv
      by_cases z : q + 1 < t
      · simp only [if_pos z]
        have m1 := mA (q + 1) (by omega) (by omega) below hb
        have m2 := mA (t - (q + 1)) (by omega) (by omega) above ha
        simp [m_drifted, c, d, dv, z, m1, m2]
      · simp only [if_neg z]
        have m1 := mA t (by omega) (by omega) below hb
        simp [m_drifted, c, d, dv, z, m1]
    · rw [if_neg d]
      have m1 := mA t (by omega) (by omega) below hb
      simp [m_drifted, c, d, m1]
end K49

set_option Elab.async false
set_option linter.all false
set_option maxRecDepth 100000
set_option maxHeartbeats 400000
namespace K49
open PySem L2 Pv
theorem added_ok {n : Nat} (hn : 5 ≤ n) (w : Way) (st fl r u : Int) (t : Nat) (hs : st.natAbs < 2 ^ 1900) (hf : fl.natAbs < 2 ^ 1900) (ht : t < 2 ^ 1900) (h0 : 0 < u) (h1 : u.natAbs < 2 ^ 64) (r0 : 0 ≤ r) (r1 : r < u) (S : Sto) :
    C n ("added", none) [.int st, .tup [.int fl, .int r, .int u], .int t, .str w.s] S = .ok (.int (addI w st fl r u t)) S := by
  rw [s_added (by omega)]
  unfold addI
  have pw : (2 : Nat) ^ 2000 = 2 ^ 1900 * 2 ^ 100 := by rw [← Nat.pow_add]
  have p1 : (2 : Nat) ^ 100 = 1267650600228229401496703205376 := by decide
  have ht' : (t : Int).natAbs < 2 ^ 1900 := by simpa using ht
  generalize (2 : Nat) ^ 1900 = P at *
  have hP : 0 < P := by omega
  have fin1 : ∀ x : Int, x.natAbs ≤ P → x.natAbs < 2 ^ 2000 := fun x h => by
    rw [pw, p1]
    omega
  by_cases c0 : t = 0
  · subst c0
    simp [m_added]
  · have c0' : ¬ (t : Int) = 0 := by omega
    rw [if_neg c0]
    by_cases cl : looseB w r u = false
    · rw [if_pos cl]
      have rn := R_near w (fl * u + r) u
      rw [(ediv_parts (q := fl) h0 r0 r1).1] at rn
      have mm : ∀ S, bop .Mult S (.int t) (.int (R w (fl * u + r) u)) = some (.int (t * R w (fl * u + r) u)) := fun S => bop_mul_b 2000 2000 (fin1 _ (by omega)) (fin1 _ (by omega)) (by decide) (by decide) (by decide)
      simp [m_added, c0, is_loose_ok (n := n - 1) (by omega), cl, alone_ok (n := n - 1) (by omega) fl r u w h0 h1, mm]
    · rw [if_neg cl]
      have cl' : looseB w r u = true := by simpa using cl
      by_cases c1 : w = .halfeven
      · rw [if_pos c1]
        have mm : ∀ S, bop .Mult S (.int ((t : Int) - 1)) (.int (fl + fl % 2)) = some (.int (((t : Int) - 1) * (fl + fl % 2))) := fun S => bop_mul_b 2000 2000 (fin1 _ (by omega)) (fin1 _ (by omega)) (by decide) (by decide) (by decide)
        simp [m_added, c0, is_loose_ok (n := n - 1) (by omega), cl', c1] at mm ⊢
        subst c1
        simp [is_loose_ok (n := n - 1) (by omega), cl', mm]
      · rw [if_neg c1]
        by_cases c2 : w = .cut ∨ w = .halfcut
        · rw [if_pos c2]
          have dr := drifted_ok (n := n - 1) (by omega) st fl fl (fl + 1) t (fin1 _ (by omega)) (fin1 _ (by omega)) (fin1 _ (by omega)) (fin1 _ (by omega)) (fin1 _ (by omega))
          rcases c2 with rfl | rfl <;> simp [m_added, c0, is_loose_ok (n := n - 1) (by omega), cl', dr]
        · rw [if_neg c2]
          have dr := drifted_ok (n := n - 1) (by omega) st fl (fl + 1) fl t (fin1 _ (by omega)) (fin1 _ (by omega)) (fin1 _ (by omega)) (fin1 _ (by omega)) (fin1 _ (by omega))
          have c3 : ¬ w = .cut := fun z => c2 (.inl z)
          have c4 : ¬ w = .halfcut := fun z => c2 (.inr z)
          simp [m_added, c0, is_loose_ok (n := n - 1) (by omega), cl', dr, c1, c3, c4]
@[simp] theorem frz1_wD {S : Sto} {a b : Int} : frz1 S (wD a b) = (wD a b, S) := rfl
@[simp] theorem noMu_wD {a b : Int} : noMu (wD a b) = true := rfl
theorem meth_units {cf : Cf} {S : Sto} {a b : Int} {r : DA} {env : Ev} : methK cf pd.pol.io pd.pol.mt "units_at" (.ok (wD a b) S) r env = methK2 cf false ("Worth", some "units_at") 1 [] (wD a b) (r env S) := by kernel_rfl
theorem split_ok {n : Nat} (hn : 5 ≤ n) (a : Int) (b sc : Nat) (hb : b ≤ 18) (hsc : sc ≤ 18) (ha : a.natAbs < 2 ^ 1000) (S : Sto) :
    C n ("split_worth", none) [wD a b, .int sc] S = .ok (.tup [.int (amW a b sc / unW b sc), .int (amW a b sc % unW b sc), .int (unW b sc)]) S := by
  rw [s_split_worth (by omega)]
  have u0 := un_pos b sc
  have u1 : (unW b sc).natAbs < 2 ^ 64 := by
    have h1 : (unW b sc).natAbs = 10 ^ (b - sc) := by unfold unW; rw [Int.natAbs_pow]; rfl
    rw [h1]
    exact Nat.lt_of_le_of_lt (Nat.pow_le_pow_right (by decide) (show b - sc ≤ 18 by omega)) (by decide)
  have ua := units_at_ok (n := n - 1) (by omega) a b (max sc b) (by omega) (by omega) (sz_mono ha (by decide))
  have em : ((if (b : Int) > sc then (b : Int) else (sc : Int)) : Int) = ((max sc b : Nat) : Int) := by split <;> omega
  have fd : ∀ S, bop .FloorDiv S (.int (amW a b sc)) (.int (unW b sc)) = some (.int (amW a b sc / unW b sc)) := fun S => bop_fdiv u0 u1
  have mm : ∀ x S, bop .Mult S (.int x) (.int (unW b sc)) = some (.int (x * unW b sc)) := fun x S => bop_mul (mulOk_r u1)
  have er : amW a b sc - amW a b sc / unW b sc * unW b sc = amW a b sc % unW b sc := by
    have := Int.emod_def (amW a b sc) (unW b sc)
    rw [Int.mul_comm (unW b sc)] at this
    omega
  have ua' : ∀ S, C (n - 1) ("Worth", some "units_at") [wD a b, .int ((max sc b : Nat) : Int)] S = .ok (.int (amW a b sc)) S := ua
  by_cases c : (sc : Int) < b
  · have tt := ten_to_ok (n := n - 1) (by omega) (b - sc) (by omega)
    have et : (b : Int) - sc = ((b - sc : Nat) : Int) := by omega
    have tt' : ∀ S, C (n - 1) ("ten_to", none) [.int ((b - sc : Nat) : Int)] S = .ok (.int (unW b sc)) S := tt
    have em' : (max sc b : Nat) = b := by omega
    rw [em'] at ua'
    simp [m_split_worth, wfld_s, c, et, tt', meth_units, ua', fd, mm, er]
  · have e1 : unW b sc = 1 := by unfold unW; rw [show b - sc = 0 by omega]; rfl
    have em' : (max sc b : Nat) = sc := by omega
    rw [em'] at ua'
    rw [e1] at fd mm er ⊢
    simp [m_split_worth, wfld_s, c, meth_units, ua']
structure Ent where
  a : Int
  b : Nat
  t : Nat
def Ent.d (e : Ent) : D := .tup [wD e.a e.b, .int e.t]
structure EntOk (e : Ent) : Prop where
  a : e.a.natAbs < 2 ^ 300
  b : e.b ≤ 12
  t : e.t < 2 ^ 300
def entS (w : Way) (sc : Nat) (st : Int) (e : Ent) : Int := iter (stp w (unW e.b sc) (amW e.a e.b sc)) e.t st
theorem am_sz {e : Ent} (h : EntOk e) {sc : Nat} (hsc : sc ≤ 12) : (amW e.a e.b sc).natAbs < 2 ^ 400 := by
  unfold amW
  refine sz_mono (mul_sz (y := 48) h.a ?_) (by decide)
  have h1 : ((10 : Int) ^ (max sc e.b - e.b)).natAbs = 10 ^ (max sc e.b - e.b) := by rw [Int.natAbs_pow]; rfl
  rw [h1]
  exact Nat.lt_of_le_of_lt (Nat.pow_le_pow_right (by decide) (show max sc e.b - e.b ≤ 12 by omega)) (by decide)
theorem fl_sz {x u : Int} {k : Nat} (hu : 0 < u) (h : x.natAbs < 2 ^ k) : (x / u).natAbs < 2 ^ k := by
  have h1 : (x / u).natAbs ≤ x.natAbs := Int.natAbs_ediv_le_natAbs x u
  omega
theorem entS_sz {w : Way} {sc : Nat} {st : Int} {e : Ent} (h : EntOk e) (hsc : sc ≤ 12) {k : Nat} (hk : 701 ≤ k) (hs : st.natAbs < 2 ^ k) : (entS w sc st e).natAbs < 2 ^ (k + 1) :=
  iter_sz w (un_pos _ _) h.t (fl_sz (un_pos _ _) (am_sz h hsc)) hs (by omega)
theorem run_step {n : Nat} (hn : 6 ≤ n) (w : Way) (sc : Nat) (hsc : sc ≤ 12) (L : D) (e : Ent) (he : EntOk e) (st : Int) (hs : st.natAbs < 2 ^ 1900) (x y : Option D) (S : Sto) (ds : List D) :
    foK (gTp (gCons (gNm 4) (gCons (gNm 5) gNil)) e.d [some L, some (.int sc), some (.str w.s), some (.int st), x, y] S) (gTp (gCons (gNm 4) (gCons (gNm 5) gNil))) (w_run_through_0 (C (n - 1))) ds =
      forD (gTp (gCons (gNm 4) (gCons (gNm 5) gNil))) (w_run_through_0 (C (n - 1))) ds [some L, some (.int sc), some (.str w.s), some (.int (entS w sc st e)), some (wD e.a e.b), some (.int e.t)] S := by
  have sp := split_ok (n := n - 1) (by omega) e.a e.b sc (by have := he.b; omega) (by omega) (sz_mono he.a (by decide))
  have u0 := un_pos e.b sc
  have u1 : (unW e.b sc).natAbs < 2 ^ 64 := by
    have h1 : (unW e.b sc).natAbs = 10 ^ (e.b - sc) := by unfold unW; rw [Int.natAbs_pow]; rfl
    rw [h1]
    exact Nat.lt_of_le_of_lt (Nat.pow_le_pow_right (by decide) (show e.b - sc ≤ 12 by have := he.b; omega)) (by decide)
  have ad := added_ok (n := n - 1) (by omega) w st (amW e.a e.b sc / unW e.b sc) (amW e.a e.b sc % unW e.b sc) (unW e.b sc) e.t hs (sz_mono (fl_sz u0 (am_sz he hsc)) (by decide)) (Nat.lt_of_lt_of_le he.t (Nat.pow_le_pow_right (by decide) (by decide))) u0 u1 (Int.emod_nonneg _ (by omega)) (Int.emod_lt_of_pos _ u0)
  have ea := add_iter w (u := unW e.b sc) (fl := amW e.a e.b sc / unW e.b sc) (r := amW e.a e.b sc % unW e.b sc) st e.t u0 (Int.emod_nonneg _ (by omega)) (Int.emod_lt_of_pos _ u0)
  have eo : amW e.a e.b sc / unW e.b sc * unW e.b sc + amW e.a e.b sc % unW e.b sc = amW e.a e.b sc := by
    have := Int.emod_def (amW e.a e.b sc) (unW e.b sc)
    rw [Int.mul_comm (unW e.b sc)] at this
    omega
  rw [ea, eo] at ad
  simp [Ent.d, w_run_through_0_K, sp, ad, entS]
theorem run_loop {n : Nat} (hn : 6 ≤ n) (w : Way) (sc : Nat) (hsc : sc ≤ 12) (L : D) (S : Sto) : ∀ (es : List Ent) (k : Nat) (st : Int) (x y : Option D), (∀ e ∈ es, EntOk e) → st.natAbs < 2 ^ k → 701 ≤ k → k + es.length ≤ 1900 →
    ∃ x' y', forD (gTp (gCons (gNm 4) (gCons (gNm 5) gNil))) (w_run_through_0 (C (n - 1))) (es.map Ent.d) [some L, some (.int sc), some (.str w.s), some (.int st), x, y] S =
      .ok (.nx [some L, some (.int sc), some (.str w.s), some (.int (es.foldl (entS w sc) st)), x', y']) S
  | [], k, st, x, y, _, _, _, _ => ⟨x, y, rfl⟩
  | e :: es, k, st, x, y, he, hs, h7, hk => by
    have h1 := he e List.mem_cons_self
    have h2 := entS_sz (w := w) (sc := sc) h1 hsc h7 hs
    simp only [List.length_cons] at hk
    obtain ⟨x', y', e2⟩ := run_loop hn w sc hsc L S es (k + 1) (entS w sc st e) (some (wD e.a e.b)) (some (.int e.t)) (fun z hz => he z (List.mem_cons_of_mem _ hz)) h2 (by omega) (by omega)
    refine ⟨x', y', ?_⟩
    rw [List.map_cons, forD_K, run_step hn w sc hsc L e h1 st (sz_mono hs (by omega)) x y S, e2]
    rfl
theorem run_through_ok {n : Nat} (hn : 6 ≤ n) (w : Way) (sc : Nat) (hsc : sc ≤ 12) (es : List Ent) (he : ∀ e ∈ es, EntOk e) (hl : es.length ≤ 100) (S : Sto) :
    C n ("run_through", none) [.lst (es.map Ent.d), .int sc, .str w.s] S = .ok (.int (es.foldl (entS w sc) 0)) S := by
  rw [s_run_through (by omega)]
  obtain ⟨x', y', e⟩ := run_loop hn w sc hsc (.lst (es.map Ent.d)) S es 701 0 none none he (by decide) (by decide) (by omega)
  simp [m_run_through, e]
theorem is_entry_ok {n : Nat} (hn : 3 ≤ n) (e : Ent) (S : Sto) : C n ("is_entry", none) [e.d] S = .ok (.bl true) S := by
  rw [s_is_entry (by omega)]
  have h1 : isiK pd.pol.own ["tuple", "list"] (.ok e.d S) = .ok (.bl true) S := by kernel_rfl
  have h2 : isiK pd.pol.own ["Worth"] (.ok (wD e.a e.b) S) = .ok (.bl true) S := by kernel_rfl
  have h3 : bi "len" S [e.d] = some (.int 2) := by kernel_rfl
  have h4 : ixD S e.d (.int 0) = some (wD e.a e.b) := by kernel_rfl
  have h5 : ixD S e.d (.int 1) = some (.int e.t) := by kernel_rfl
  simp [m_is_entry, h1, h2, h3, h4, h5, is_whole_int (n := n - 1) (by omega)]
theorem frz1_ent {S : Sto} {e : Ent} : frz1 S e.d = (e.d, S) := rfl
theorem need_loop {n : Nat} (hn : 4 ≤ n) (L : D) (S : Sto) : ∀ (es : List Ent) (k : Int) (x y : Option D), ∃ x' y', forD (gTp (gCons (gNm 1) (gCons (gNm 2) gNil))) (w_need_entries_0 (C (n - 1))) (enumD k (es.map Ent.d)) [some L, x, y] S = .ok (.nx [some L, x', y']) S
  | [], k, x, y => ⟨x, y, rfl⟩
  | e :: es, k, x, y => by
    obtain ⟨x', y', e2⟩ := need_loop hn L S es (k + 1) (some (.int k)) (some e.d)
    refine ⟨x', y', ?_⟩
    rw [← e2, List.map_cons]
    show forD _ _ (.tup [.int k, e.d] :: enumD (k + 1) (es.map Ent.d)) _ _ = _
    simp [w_need_entries_0_K, frz1_ent, is_entry_ok (n := n - 1) (by omega)]
theorem need_entries_ok {n : Nat} (hn : 4 ≤ n) (es : List Ent) (S : Sto) : C n ("need_entries", none) [.lst (es.map Ent.d)] S = .ok .non S := by
  rw [s_need_entries (by omega)]
  obtain ⟨x', y', e⟩ := need_loop hn (.lst (es.map Ent.d)) S es 0 none none
  simp [m_need_entries, e]
theorem need_sw_ok {n : Nat} (hn : 3 ≤ n) (sc : Nat) (w : Way) (S : Sto) : C n ("need_scale_and_way", none) [.int sc, .str w.s] S = .ok .non S := by
  rw [s_need_scale_and_way (by omega)]
  simp [m_need_scale_and_way, is_whole_int (n := n - 1) (by omega)]
theorem total_ok {n : Nat} (hn : 7 ≤ n) (w : Way) (sc : Nat) (hsc : sc ≤ 12) (es : List Ent) (he : ∀ e ∈ es, EntOk e) (hl : es.length ≤ 100) (S : Sto) :
    C n ("running_total", none) [.lst (es.map Ent.d), .int sc, .str w.s] S = .ok (wOf (es.foldl (entS w sc) 0) sc) S := by
  rw [s_running_total (by omega)]
  have hw : ∀ a b : Int, fin false S.length (.ok (.rt (wD a b)) S) = .ok (wD a b) S := fun a b => by
    have : fin false S.length (.ok (.rt (wD a b)) S) = .ok (wD a b) (S.take S.length) := rfl
    rw [this, List.take_length]
  simp [m_running_total, need_entries_ok (n := n - 1) (by omega), need_sw_ok (n := n - 1) (by omega), run_through_ok (n := n - 1) (by omega) w sc hsc es he hl, make_ok (n := n - 1) (by omega) _ sc (by omega)]
  exact hw _ _
end K49

set_option Elab.async false
set_option linter.all false
set_option maxRecDepth 100000
set_option maxHeartbeats 400000
namespace K49
open PySem L2 Pv
theorem tens_ok {n : Nat} (hn : 1 ≤ n) (k : Nat) (hk : k ≤ 1000) (S : Sto) : C n ("_law_tens", none) [.int k] S = .ok (.int (10 ^ k)) S := by
  rw [s_law_tens hn]
  obtain ⟨env', S', e, y, e1, e2⟩ := for_inv (gNm 2) (w_law_tens_0 (C (n - 1))) (fun j env S' => ∃ y, env = [some (.int k), some (.int (10 ^ j)), y] ∧ S' = S) (rangeD 0 k) 0 [some (.int k), some (.int 1), none] S ⟨none, by simp, rfl⟩ (fun j d env S' _ _ _ h => by
    obtain ⟨y, rfl, rfl⟩ := h
    refine ⟨[some (.int k), some (.int (10 ^ (j + 1))), some d], S', ⟨_, rfl, rfl⟩, fun r => ?_⟩
    rw [Int.pow_succ]
    simp [w_law_tens_0_K])
  have hl : 0 + (rangeD 0 (k : Int)).length = k := by rw [rangeD_len]; omega
  rw [hl] at e1
  subst e1 e2
  simp [m_law_tens, forR_nat (k := k) (by omega), e]
theorem rounded_ok {n : Nat} (hn : 1 ≤ n) (x u : Int) (w : Way) (h0 : 0 < u) (h1 : u.natAbs < 2 ^ 64) (S : Sto) : C n ("_law_rounded", none) [.int x, .int u, .str w.s] S = .ok (.int (R w x u)) S := by
  rw [s_law_rounded hn, ← R_eq]
  have fd : ∀ S, bop .FloorDiv S (.int x) (.int u) = some (.int (x / u)) := fun S => bop_fdiv h0 h1
  by_cases c : x % u = 0
  · simp [m_law_rounded, h0, fd, c, R']
  · by_cases c2 : 2 * (x % u) = u
    · cases w <;> simp [m_law_rounded, h0, fd, c, c2, R', bI]
    · cases w <;> simp [m_law_rounded, h0, fd, c, c2, R', bI]
theorem own_stay {cf : Cf} {S : Sto} {u : Int} (h : ¬ u % 10 = 0) (s : Int) : ∀ (ds : List D) (x : Option D), ∃ x', forD (gNm 2) (w_law_own_0 cf) ds [some (.int u), some (.int s), x] S = .ok (.nx [some (.int u), some (.int s), x']) S
  | [], x => ⟨x, rfl⟩
  | d :: ds, x => by
    obtain ⟨x', e⟩ := own_stay (cf := cf) (S := S) h s ds (some d)
    exact ⟨x', by rw [← e]; simp [w_law_own_0_K, h]⟩
theorem own_loop {cf : Cf} {S : Sto} : ∀ (ds : List D) (u s : Int) (x : Option D), ∃ x', forD (gNm 2) (w_law_own_0 cf) ds [some (.int u), some (.int s), x] S = .ok (.nx [some (.int (low u ds.length).1), some (.int (s - ds.length + (low u ds.length).2)), x']) S
  | [], u, s, x => ⟨x, by simp [low]⟩
  | d :: ds, u, s, x => by
    by_cases c : u % 10 = 0
    · obtain ⟨x', e⟩ := own_loop (cf := cf) (S := S) ds (u / 10) (s - 1) (some d)
      refine ⟨x', ?_⟩
      have el : low u (d :: ds).length = low (u / 10) ds.length := by rw [List.length_cons, low, if_pos c]
      rw [el, show s - ((d :: ds).length : Int) + ((low (u / 10) ds.length).2 : Int) = s - 1 - (ds.length : Int) + ((low (u / 10) ds.length).2 : Int) by rw [List.length_cons]; omega, ← e]
      simp [w_law_own_0_K, c]
    · obtain ⟨x', e⟩ := own_stay (cf := cf) (S := S) c s (d :: ds) x
      refine ⟨x', ?_⟩
      have el : low u (d :: ds).length = (u, (d :: ds).length) := by rw [List.length_cons, low, if_neg c]
      rw [e, el, show s - ((d :: ds).length : Int) + (((u, (d :: ds).length) : Int × Nat).2 : Int) = s by show s - ((d :: ds).length : Int) + ((d :: ds).length : Int) = s; omega]
theorem own_ok {n : Nat} (hn : 1 ≤ n) (u : Int) (k : Nat) (hk : k ≤ 1000) (S : Sto) : C n ("_law_own", none) [.int u, .int k] S = .ok (.tup [.int (low u k).1, .int (low u k).2]) S := by
  rw [s_law_own hn]
  obtain ⟨x', e⟩ := own_loop (cf := C (n - 1)) (S := S) (rangeD 0 k) u k none
  have hl : (rangeD 0 (k : Int)).length = k := by rw [rangeD_len]; omega
  rw [hl, show (k : Int) - (k : Int) + ((low u k).2 : Int) = ((low u k).2 : Int) by omega] at e
  simp [m_law_own, forR_nat (k := k) (by omega), e]
theorem same_ok {n : Nat} (hn : 2 ≤ n) (a b u : Int) (k : Nat) (hk : k ≤ 1000) (S : Sto) : C n ("_law_same", none) [wD a b, .int u, .int k] S = .ok (.bl (decide (a = (low u k).1) && decide (b = (low u k).2))) S := by
  rw [s_law_same (by omega)]
  have h1 : isiK pd.pol.own ["Worth"] (.ok (wD a b) S) = .ok (.bl true) S := by kernel_rfl
  have h2 : isiK pd.pol.own ["bool"] (.ok (.int a) S) = .ok (.bl false) S := by kernel_rfl
  simp [m_law_same, h1, h2, wfld_u, wfld_s, own_ok (n := n - 1) (by omega) u k hk]
theorem same_self {n : Nat} (hn : 2 ≤ n) (u : Int) (k : Nat) (hk : k ≤ 1000) (S : Sto) : C n ("_law_same", none) [wOf u k, .int u, .int k] S = .ok (.bl true) S := by
  unfold wOf
  rw [same_ok hn _ _ u k hk]
  simp
theorem ten_sz (j : Nat) (hj : j ≤ 1000) : ((10 : Int) ^ j).natAbs < 2 ^ 4004 := by
  have h1 : ((10 : Int) ^ j).natAbs = 10 ^ j := by rw [Int.natAbs_pow]; rfl
  rw [h1]
  calc 10 ^ j ≤ 16 ^ j := Nat.pow_le_pow_left (by decide) _
    _ = 2 ^ (4 * j) := by rw [Nat.pow_mul]
    _ < 2 ^ 4004 := Nat.pow_lt_pow_right (by decide) (by omega)
theorem at_ok {n : Nat} (hn : 2 ≤ n) (u : Int) (k : Nat) (hk : k ≤ 1000) (hu : u.natAbs < 2 ^ 3000) (S : Sto) : C n ("_law_at", none) [wOf u k, .int k] S = .ok (.int u) S := by
  rw [s_law_at (by omega)]
  unfold wOf
  obtain ⟨h1, h2, h3⟩ := low_spec k u
  have i1 : isiK pd.pol.own ["Worth"] (.ok (wD (low u k).1 (low u k).2) S) = .ok (.bl true) S := by kernel_rfl
  have c1 : ¬ (k : Int) < ((low u k).2 : Int) := by omega
  have c2 : ¬ k < (low u k).2 := by omega
  have e1 : (k : Int) - ((low u k).2 : Int) = ((k - (low u k).2 : Nat) : Int) := by omega
  have tt := tens_ok (n := n - 1) (by omega) (k - (low u k).2) (by omega)
  have mm : ∀ S, bop .Mult S (.int (low u k).1) (.int (10 ^ (k - (low u k).2))) = some (.int u) := fun S => by
    rw [bop_mul_b 3000 4004 (by omega) (ten_sz _ (by omega)) (by decide) (by decide) (by decide), ← h2]
  simp [m_law_at, i1, wfld_s, wfld_u, c2, e1, tt, mm]
theorem run_loop2 {n : Nat} (hn : 2 ≤ n) (w : Way) (u : Int) (h0 : 0 < u) (h1 : u.natAbs < 2 ^ 64) (L : D) (S : Sto) : ∀ (xs : List Int) (st : Int) (y : Option D), ∃ y', forD (gNm 4) (w_law_run_0 (C (n - 1))) (xs.map D.int) [some L, some (.int u), some (.str w.s), some (.int st), y] S = .ok (.nx [some L, some (.int u), some (.str w.s), some (.int (xs.foldl (fun st one => stp w u one st) st)), y']) S
  | [], st, y => ⟨y, rfl⟩
  | x :: xs, st, y => by
    obtain ⟨y', e⟩ := run_loop2 hn w u h0 h1 L S xs (stp w u x st) (some (.int x))
    refine ⟨y', ?_⟩
    have ro := rounded_ok (n := n - 1) (by omega) (st * u + x) u w h0 h1
    have mm : ∀ S, bop .Mult S (.int st) (.int u) = some (.int (st * u)) := fun S => bop_mul (mulOk_r h1)
    rw [List.foldl_cons, ← e, List.map_cons]
    simp [w_law_run_0_K, mm, ro, stp]
theorem lrun_ok {n : Nat} (hn : 2 ≤ n) (w : Way) (u : Int) (h0 : 0 < u) (h1 : u.natAbs < 2 ^ 64) (xs : List Int) (S : Sto) : C n ("_law_run", none) [.lst (xs.map D.int), .int u, .str w.s] S = .ok (.int (xs.foldl (fun st one => stp w u one st) 0)) S := by
  rw [s_law_run (by omega)]
  obtain ⟨y', e⟩ := run_loop2 hn w u h0 h1 (.lst (xs.map D.int)) S xs 0 none
  simp [m_law_run, e]
theorem ways_ok {n : Nat} (hn : 1 ≤ n) (S : Sto) : C n ("_law_ways", none) [] S = .ok (.lst ([Way.floor, .ceiling, .cut, .away, .halfup, .halfdown, .halfeven, .halfaway, .halfcut].map fun w => .str w.s)) S := by
  rw [s_law_ways hn]
  simp [m_law_ways, Way.s]
theorem pick_ok {n : Nat} (hn : 2 ≤ n) {p : Pen} {k : Int} (hp : PenOk k p) (hk : k ≤ 1000000) (R : Sto) :
    ∃ (w : Way) (p' : Pen), C n ("_law_pick", none) [.mu 0, .lst ([Way.floor, .ceiling, .cut, .away, .halfup, .halfdown, .halfeven, .halfaway, .halfcut].map fun w => .str w.s)] (p.m :: R) = .ok (.str w.s) (p'.m :: R) ∧ PenOk (k + 1) p' := by
  obtain ⟨d, p', e, d0, d1, hp'⟩ := draw_ok (n := n - 1) (by omega) hp (by omega) (span := 9) (by decide) (by decide) R
  obtain ⟨x, hx, hm⟩ := atI_some (l := [Way.floor, .ceiling, .cut, .away, .halfup, .halfdown, .halfeven, .halfaway, .halfcut].map fun w => D.str w.s) d0 d1
  obtain ⟨w, _, rfl⟩ := List.mem_map.mp hm
  refine ⟨w, p', ?_, hp'⟩
  rw [s_law_pick (by omega)]
  generalize hL : ([Way.floor, .ceiling, .cut, .away, .halfup, .halfdown, .halfeven, .halfaway, .halfcut].map fun w => D.str w.s) = L at *
  have hl : L.length = 9 := by rw [← hL]; rfl
  simp [m_law_pick, hl, e, ixD_l, hx]
theorem great_ok {n : Nat} (hn : 2 ≤ n) {p : Pen} {k : Int} (hp : PenOk k p) (hk : k ≤ 1000000) (f m : Nat) (hf : f / 7 = m) (h1 : 1 ≤ m) (h8 : m ≤ 8) (R : Sto) :
    ∃ (v : Nat) (p' : Pen), C n ("_law_great", none) [.mu 0, .int f] (p.m :: R) = .ok (.int v) (p'.m :: R) ∧ v < 10 ^ 56 ∧ PenOk (k + 9) p' := by
  obtain ⟨d, p1, e, d0, d1, hp1⟩ := draw_ok (n := n - 1) (by omega) hp (by omega) (span := (m : Int)) (by omega) (by omega) R
  have ef : (f : Int) / 7 = (m : Int) := by omega
  obtain ⟨c, rfl⟩ : ∃ c : Nat, d = c := ⟨d.toNat, by omega⟩
  obtain ⟨env', S', e2, v, p2, y, rfl, rfl, hv, hp2⟩ := for_inv (gNm 3) (w_law_great_0 (C (n - 1))) (fun j env S => ∃ (v : Nat) (p : Pen) (y : Option D), env = [some (.mu 0), some (.int f), some (.int v), y] ∧ S = p.m :: R ∧ v < 10 ^ (7 * j) ∧ PenOk (k + 1 + j) p) (rangeD 0 ((1 + c : Nat) : Int)) 0 [some (.mu 0), some (.int f), some (.int 0), none] (p1.m :: R)
    ⟨0, p1, none, by simp, rfl, by decide, by simpa using hp1⟩ (fun j d env S _ hj _ h => by
      obtain ⟨v, p, y, rfl, rfl, hv, hp⟩ := h
      rw [rangeD_len] at hj
      obtain ⟨q, p', e, q0, q1, hp'⟩ := draw_ok (n := n - 1) (by omega) hp (by omega) (span := 10000000) (by decide) (by decide) R
      obtain ⟨z, rfl⟩ : ∃ z : Nat, q = z := ⟨q.toNat, by omega⟩
      refine ⟨[some (.mu 0), some (.int f), some (.int ((v * 10000000 + z : Nat) : Int)), some d], p'.m :: R, ⟨_, p', _, rfl, rfl, ?_, ?_⟩, fun r => ?_⟩
      · rw [show 7 * (j + 1) = 7 * j + 7 by omega, Nat.pow_add]
        have : (10 : Nat) ^ 7 = 10000000 := by decide
        rw [this]
        omega
      · have : k + 1 + ((j + 1 : Nat) : Int) = k + 1 + (j : Int) + 1 := by omega
        rw [this]
        exact hp'
      · simp [w_law_great_0_K, e])
  rw [rangeD_len] at hv hp2
  refine ⟨v, p2, ?_, Nat.lt_of_lt_of_le hv (Nat.pow_le_pow_right (by decide) (by omega)), hp2.mono (by omega)⟩
  rw [s_law_great (by omega)]
  have e3 : (1 : Int) + (c : Int) = ((1 + c : Nat) : Int) := by omega
  simp only [m_law_great, sSeq_K, sAsg_K, startD_eq, eC_ok, asgK_ok, gNm_ok, asgK2_ok, seqK_nx, sForR_K, forRK_ok]
  simp [ef, e]
  rw [e3, forR_nat (by omega), e2]
  simp
end K49

set_option Elab.async false
set_option linter.all false
set_option maxRecDepth 100000
set_option maxHeartbeats 400000
namespace K49
open PySem L2 Pv
theorem p56 : (10 : Nat) ^ 56 < 2 ^ 190 := by decide
theorem signed_ok {n : Nat} (hn : 3 ≤ n) {p : Pen} {k : Int} (hp : PenOk k p) (hk : k ≤ 900000) (f m : Nat) (hf : f / 7 = m) (h1 : 1 ≤ m) (h8 : m ≤ 8) (R : Sto) :
    ∃ (v : Int) (p' : Pen), C n ("_law_signed", none) [.mu 0, .int f] (p.m :: R) = .ok (.int v) (p'.m :: R) ∧ v.natAbs < 10 ^ 56 ∧ PenOk (k + 12) p' := by
  have c7 : ¬ (f : Int) < 7 := by omega
  have c7' : ¬ f < 7 := by omega
  rw [s_law_signed (by omega)]
  obtain ⟨d, p1, e1, d0, d1, hp1⟩ := draw_ok (n := n - 1) (by omega) hp (by omega) (span := 4) (by decide) (by decide) R
  by_cases c : 0 < d
  · obtain ⟨a, p2, e2, a0, a1, hp2⟩ := draw_ok (n := n - 1) (by omega) hp1 (by omega) (span := 5) (by decide) (by decide) R
    have ha : a.natAbs < 10 ^ 56 := Nat.lt_of_le_of_lt (show a.natAbs ≤ 5 by omega) (by decide)
    obtain ⟨b, p3, e3, b0, b1, hp3⟩ := draw_ok (n := n - 1) (by omega) hp2 (by omega) (span := 2) (by decide) (by decide) R
    by_cases cb : b = 0
    · exact ⟨a, p3, by simp [m_law_signed, c7, c7', e1, c, e2, e3, cb], ha, hp3.mono (by omega)⟩
    · exact ⟨-a, p3, by simp [m_law_signed, c7, c7', e1, c, e2, e3, cb], by omega, hp3.mono (by omega)⟩
  · obtain ⟨a, p2, e2, a1, hp2⟩ := great_ok (n := n - 1) (by omega) hp1 (by omega) f m hf h1 h8 R
    obtain ⟨b, p3, e3, b0, b1, hp3⟩ := draw_ok (n := n - 1) (by omega) hp2 (by omega) (span := 2) (by decide) (by decide) R
    by_cases cb : b = 0
    · exact ⟨a, p3, by simp [m_law_signed, c7, c7', e1, c, e2, e3, cb], by omega, hp3.mono (by omega)⟩
    · exact ⟨-a, p3, by simp [m_law_signed, c7, c7', e1, c, e2, e3, cb], by omega, hp3.mono (by omega)⟩
theorem units_ok {n : Nat} (hn : 4 ≤ n) {p : Pen} {k : Int} (hp : PenOk k p) (hk : k ≤ 800000) (u : Int) (u0 : 0 < u) (u1 : u ≤ 1000000) (f m : Nat) (hf : f / 7 = m) (h1 : 1 ≤ m) (h8 : m ≤ 8) (R : Sto) :
    ∃ (v : Int) (p' : Pen), C n ("_law_units", none) [.mu 0, .int u, .int f] (p.m :: R) = .ok (.int v) (p'.m :: R) ∧ v.natAbs < 2 ^ 250 ∧ PenOk (k + 14) p' := by
  rw [s_law_units (by omega)]
  obtain ⟨v, p1, e1, hv, hp1⟩ := signed_ok (n := n - 1) (by omega) hp (by omega) f m hf h1 h8 R
  obtain ⟨d, p2, e2, d0, d1, hp2⟩ := draw_ok (n := n - 1) (by omega) hp1 (by omega) (span := 9) (by decide) (by decide) R
  have mm : ∀ S, bop .Mult S (.int v) (.int u) = some (.int (v * u)) := fun S => bop_mul (mulOk_r (by omega))
  have sv : (v * u).natAbs < 2 ^ (190 + 20) := mul_sz (Nat.lt_trans hv p56) (by omega)
  have big : ∀ x : Int, x.natAbs ≤ 1000001 → (v * u + x).natAbs < 2 ^ 250 := fun x hx => by
    have : (2 : Nat) ^ 250 = 2 ^ (190 + 20) * 2 ^ 40 := by rw [← Nat.pow_add]
    have h2 : (2 : Nat) ^ 40 = 1099511627776 := by decide
    rw [this, h2]
    generalize (2 : Nat) ^ (190 + 20) = Q at *
    omega
  by_cases c : d = 8
  · obtain ⟨b, p3, e3, b0, b1, hp3⟩ := draw_ok (n := n - 1) (by omega) hp2 (by omega) (span := u) (by omega) (by omega) R
    exact ⟨v * u + b, p3, by simp [m_law_units, e1, e2, mm, c, e3], big b (by omega), hp3.mono (by omega)⟩
  · have dd : d = 0 ∨ d = 1 ∨ d = 2 ∨ d = 3 ∨ d = 4 ∨ d = 5 ∨ d = 6 ∨ d = 7 := by omega
    have at8 : ∀ (a0 a1 a2 a3 a4 a5 a6 a7 : Int) (S : Sto), ∃ x : Int, ixD S (.lst [.int a0, .int a1, .int a2, .int a3, .int a4, .int a5, .int a6, .int a7]) (.int d) = some (.int x) ∧ (x = a0 ∨ x = a1 ∨ x = a2 ∨ x = a3 ∨ x = a4 ∨ x = a5 ∨ x = a6 ∨ x = a7) := fun a0 a1 a2 a3 a4 a5 a6 a7 S => by
      obtain ⟨x, hx, hm⟩ := atI_some (l := [D.int a0, .int a1, .int a2, .int a3, .int a4, .int a5, .int a6, .int a7]) (i := d) d0 (by simp; omega)
      simp only [List.mem_cons, List.not_mem_nil, or_false] at hm
      rcases hm with rfl | rfl | rfl | rfl | rfl | rfl | rfl | rfl
      all_goals exact ⟨_, hx, by simp⟩
    obtain ⟨x, hx, hm⟩ := at8 0 (u / 2) (u / 2) (u / 2) (u / 2 - (if 2 < u then 1 else 0)) (if u - 1 < u / 2 + 1 then u - 1 else u / 2 + 1) (u - 1) (if u - 1 < 1 then u - 1 else 1) (p2.m :: R)
    have xb : x.natAbs ≤ 1000001 := by
      rcases hm with h | h | h | h | h | h | h | h <;> (try split at h) <;> omega
    refine ⟨v * u + x, p2, ?_, big x xb, hp2.mono (by omega)⟩
    simp [m_law_units, e1, e2, mm, c]
    simp [hx]
theorem many_ok {n : Nat} (hn : 3 ≤ n) {p : Pen} {k : Int} (hp : PenOk k p) (hk : k ≤ 800000) (s o : Int) (hs : s.natAbs < 2 ^ 250) (ho : o.natAbs < 2 ^ 250) (R : Sto) :
    ∃ (t : Nat) (p' : Pen), C n ("_law_many", none) [.mu 0, .int s, .int o] (p.m :: R) = .ok (.int t) (p'.m :: R) ∧ t < 2 ^ 260 ∧ PenOk (k + 12) p' := by
  rw [s_law_many (by omega)]
  obtain ⟨d, p1, e1, d0, d1, hp1⟩ := draw_ok (n := n - 1) (by omega) hp (by omega) (span := 3) (by decide) (by decide) R
  by_cases c : d = 0
  · obtain ⟨b, p2, e2, b0, b1, hp2⟩ := draw_ok (n := n - 1) (by omega) hp1 (by omega) (span := 10) (by decide) (by decide) R
    obtain ⟨z, rfl⟩ : ∃ z : Nat, b = z := ⟨b.toNat, by omega⟩
    exact ⟨z, p2, by simp [m_law_many, e1, c, e2], Nat.lt_of_le_of_lt (show z ≤ 10 by omega) (by decide), hp2.mono (by omega)⟩
  · by_cases c1 : d = 1
    · obtain ⟨z, p2, e2, hz, hp2⟩ := great_ok (n := n - 1) (by omega) hp1 (by omega) 56 8 rfl (by decide) (by decide) R
      have e2' : C (n - 1) ("_law_great", none) [.mu 0, .int 56] (p1.m :: R) = .ok (.int z) (p2.m :: R) := e2
      exact ⟨z, p2, by simp [m_law_many, e1, c1, e2'], Nat.lt_trans (Nat.lt_trans hz p56) (Nat.pow_lt_pow_right (by decide) (by decide)), hp2.mono (by omega)⟩
    · obtain ⟨b, p2, e2, b0, b1, hp2⟩ := draw_ok (n := n - 1) (by omega) hp1 (by omega) (span := 7) (by decide) (by decide) R
      have eq1 : (2 : Nat) ^ 260 = 2 ^ 250 * 1024 := by rw [show (1024 : Nat) = 2 ^ 10 by decide, ← Nat.pow_add]
      generalize hA : (if s < 0 then -s else s) = A
      generalize hB : (if (if o < 0 then -o else o) > 1 then (if o < 0 then -o else o) else 1) = B
      have A0 : 0 ≤ A ∧ A.natAbs < 2 ^ 250 := by rw [← hA]; split <;> omega
      have p250 : 1 < (2 : Nat) ^ 250 := by decide
      have B0 : 0 < B ∧ B.natAbs < 2 ^ 250 := by rw [← hB]; split <;> split <;> omega
      have dv : ∀ S, bop .FloorDiv S (.int A) (.int B) = some (.int (A / B)) := fun S => bop_fdiv_b B0.1 250 B0.2 (by decide) (by decide)
      have q0 : 0 ≤ A / B := Int.ediv_nonneg A0.1 (by omega)
      have q1 : A / B ≤ A := Int.ediv_le_self _ A0.1
      generalize A / B = q at *
      refine ⟨(if q + b - 3 > 0 then q + b - 3 else 0).toNat, p2, ?_, ?_, hp2.mono (by omega)⟩
      · have ez : ((if q + b - 3 > 0 then q + b - 3 else 0 : Int).toNat : Int) = (if q + b - 3 > 0 then q + b - 3 else 0) := by split <;> omega
        rw [ez]
        simp only [m_law_many, sSeq_K, sAsg_K, startD_eq]
        simp [e1, c, c1]
        simp only [gt_iff_lt] at hB
        simp [hA, hB, dv, e2]
      · rw [eq1]
        generalize (2 : Nat) ^ 250 = Q at *
        split <;> omega
end K49

set_option Elab.async false
set_option linter.all false
set_option maxRecDepth 100000
set_option maxHeartbeats 1000000
namespace K49
open PySem L2 Pv
def ent (one : Int) (deep t : Nat) : Ent := ⟨(low one deep).1, (low one deep).2, t⟩
theorem ent_ok {one : Int} {deep t : Nat} (h : one.natAbs < 2 ^ 250) (hd : deep ≤ 12) (ht : t < 2 ^ 300) : EntOk (ent one deep t) := by
  obtain ⟨h1, _, h3⟩ := low_spec deep one
  exact ⟨Nat.lt_of_le_of_lt h3 (Nat.lt_trans h (Nat.pow_lt_pow_right (by decide) (by decide))), Nat.le_trans h1 hd, ht⟩
theorem ent_S (w : Way) (sc pl : Nat) (one st : Int) (t : Nat) : entS w sc st (ent one (sc + pl) t) = iter (stp w (10 ^ pl) one) t st := iter_congr (fun x => stp_worth w one sc pl x) t st
theorem fold_sz {w : Way} {sc : Nat} (hsc : sc ≤ 12) : ∀ (es : List Ent) (k : Nat) (st : Int), (∀ e ∈ es, EntOk e) → 701 ≤ k → st.natAbs < 2 ^ k → (es.foldl (entS w sc) st).natAbs < 2 ^ (k + es.length)
  | [], k, st, _, _, h => h
  | e :: es, k, st, he, hk, h => by
    have := fold_sz (w := w) hsc es (k + 1) (entS w sc st e) (fun z hz => he z (List.mem_cons_of_mem _ hz)) (by omega) (entS_sz (he e List.mem_cons_self) hsc hk h)
    rw [List.foldl_cons, List.length_cons, show k + (es.length + 1) = k + 1 + es.length by omega]
    exact this
theorem mk_ok {n : Nat} (hn : 4 ≤ n) (u : Int) (k : Nat) (hk : k < 99) (S : Sto) : mkK2 (C n) "Worth" (some [.int u, .int k]) S = .ok (wOf u k) S := by
  rw [mkK2_ok, make_ok hn u k hk S]
@[simp] theorem frz1_wOf {S : Sto} {u : Int} {k : Nat} : frz1 S (wOf u k) = (wOf u k, S) := rfl
@[simp] theorem noMu_wOf {u : Int} {k : Nat} : noMu (wOf u k) = true := rfl
theorem mls_nil {S : Sto} : mlsK (.ok [] S) = .ok (.mu S.length) (S ++ [.lst []]) := mlsK_ok (by decide) rfl
def rowOf (L : List (Int × Nat)) : List Int := L.flatMap fun e => List.replicate e.2 e.1
def entsOf (deep : Nat) (L : List (Int × Nat)) : List Ent := L.map fun e => ent e.1 deep e.2
theorem fold_rep (f : Int → Int → Int) (x : Int) : ∀ (t : Nat) (st : Int), (List.replicate t x).foldl f st = iter (fun st => f st x) t st
  | 0, st => rfl
  | t + 1, st => by rw [List.replicate_succ, List.foldl_cons]; exact fold_rep f x t (f st x)
theorem fold_row (w : Way) (U : Int) : ∀ (L : List (Int × Nat)) (st : Int), (rowOf L).foldl (fun st one => stp w U one st) st = L.foldl (fun st e => iter (stp w U e.1) e.2 st) st
  | [], st => rfl
  | e :: L, st => by
    have : rowOf (e :: L) = List.replicate e.2 e.1 ++ rowOf L := rfl
    rw [this, List.foldl_append, fold_rep, List.foldl_cons]
    exact fold_row w U L _
theorem fold_ent (w : Way) (sc pl : Nat) : ∀ (L : List (Int × Nat)) (st : Int), (entsOf (sc + pl) L).foldl (entS w sc) st = L.foldl (fun st e => iter (stp w (10 ^ pl) e.1) e.2 st) st
  | [], st => rfl
  | e :: L, st => by
    have : entsOf (sc + pl) (e :: L) = ent e.1 (sc + pl) e.2 :: entsOf (sc + pl) L := rfl
    rw [this, List.foldl_cons, List.foldl_cons, ent_S]
    exact fold_ent w sc pl L _
theorem row_len : ∀ (L : List (Int × Nat)), (∀ e ∈ L, e.2 ≤ 3) → (rowOf L).length ≤ 3 * L.length
  | [], _ => by simp [rowOf]
  | e :: L, h => by
    have : rowOf (e :: L) = List.replicate e.2 e.1 ++ rowOf L := rfl
    have h1 := row_len L fun z hz => h z (List.mem_cons_of_mem _ hz)
    have h2 := h e List.mem_cons_self
    rw [this, List.length_append, List.length_replicate, List.length_cons]
    omega
theorem small_ok {n : Nat} (hn : 8 ≤ n) {p : Pen} {k : Int} (hp : PenOk k p) (hk : k ≤ 500000) (w : Way) (sc pl : Nat) (hsc : sc ≤ 3) (hpl : pl ≤ 3) :
    ∃ p' : Pen, C n ("_law_small_right", none) [.mu 0, .int (10 ^ pl), .int ((sc + pl : Nat) : Int), .int sc, .str w.s] [p.m] = .ok (.bl true) [p'.m] ∧ PenOk (k + 200) p' := by
  generalize hU : (10 : Int) ^ pl = U
  have U0 : 0 < U := by rw [← hU]; exact Int.pow_pos (by decide)
  have U1 : U ≤ 1000000 := by
    rw [← hU]
    have : pl = 0 ∨ pl = 1 ∨ pl = 2 ∨ pl = 3 := by omega
    rcases this with rfl | rfl | rfl | rfl <;> decide
  obtain ⟨c, p1, e1, c0, c1, hp1⟩ := draw_ok (n := n - 1) (by omega) hp (by omega) (span := 9) (by decide) (by decide) [.lst []]
  obtain ⟨c, rfl⟩ : ∃ z : Nat, c = z := ⟨c.toNat, by omega⟩
  obtain ⟨env', S', e2, L, p2, x, y, z, rfl, rfl, hL, hb, hp2⟩ := for_inv (gNm 7) (w_law_small_right_0 (C (n - 1)))
    (fun j env S => ∃ (L : List (Int × Nat)) (p : Pen) (x y z : Option D), env = [some (.mu 0), some (.int U), some (.int ((sc + pl : Nat) : Int)), some (.int sc), some (.str w.s), some (.lst ((rowOf L).map D.int)), some (.mu 1), x, y, z] ∧ S = [p.m, .lst ((entsOf (sc + pl) L).map Ent.d)] ∧ L.length = j ∧ (∀ e ∈ L, e.1.natAbs < 2 ^ 250 ∧ e.2 ≤ 3) ∧ PenOk (k + 1 + 15 * (j : Int)) p)
    (rangeD 0 (c : Int)) 0 [some (.mu 0), some (.int U), some (.int ((sc + pl : Nat) : Int)), some (.int sc), some (.str w.s), some (.lst []), some (.mu 1), none, none, none] [p1.m, .lst []]
    ⟨[], p1, none, none, none, rfl, rfl, rfl, (fun e he => absurd he List.not_mem_nil), by simpa using hp1⟩ (fun j d env S _ hj _ h => by
      obtain ⟨L, p, x, y, z, rfl, rfl, hL, hb, hp⟩ := h
      rw [rangeD_len] at hj
      obtain ⟨v, p3, e3, hv, hp3⟩ := units_ok (n := n - 1) (by omega) hp (by omega) U U0 U1 28 4 rfl (by decide) (by decide) [.lst ((entsOf (sc + pl) L).map Ent.d)]
      have e3' : C (n - 1) ("_law_units", none) [.mu 0, .int U, .int 28] (p.m :: [.lst ((entsOf (sc + pl) L).map Ent.d)]) = .ok (.int v) (p3.m :: [.lst ((entsOf (sc + pl) L).map Ent.d)]) := e3
      obtain ⟨t, p4, e4, t0, t1, hp4⟩ := draw_ok (n := n - 1) (by omega) hp3 (by omega) (span := 4) (by decide) (by decide) [.lst ((entsOf (sc + pl) L).map Ent.d)]
      obtain ⟨t, rfl⟩ : ∃ z : Nat, t = z := ⟨t.toNat, by omega⟩
      have hb2 : ∀ e ∈ L ++ [(v, t)], e.1.natAbs < 2 ^ 250 ∧ e.2 ≤ 3 := fun e he => by
        rcases List.mem_append.mp he with h | h
        · exact hb e h
        · cases List.mem_singleton.mp h
          exact ⟨hv, by show t ≤ 3; omega⟩
      have rl := row_len L fun e he => (hb e he).2
      have rl2 : ((rowOf L).map D.int).length + (List.replicate t (D.int v)).length ≤ 1000 := by rw [List.length_map, List.length_replicate]; omega
      have ca : ∀ S, bop .Add S (.lst ((rowOf L).map D.int)) (.lst (List.replicate t (D.int v))) = some (.lst ((rowOf (L ++ [(v, t)])).map D.int)) := fun S => by
        rw [bop_cat rl2]
        congr 2
        unfold rowOf
        simp
      have re : ∀ S, bop .Mult S (.lst [.int v]) (.int (t : Int)) = some (.lst (List.replicate t (D.int v))) := fun S => bop_rep (by omega)
      have mk := mk_ok (n := n - 1) (by omega) v (sc + pl) (by omega)
      have ap : appD [p4.m, .lst ((entsOf (sc + pl) L).map Ent.d)] (.mu 1) (.tup [wOf v (sc + pl), .int (t : Int)]) = some [p4.m, .lst ((entsOf (sc + pl) (L ++ [(v, t)])).map Ent.d)] := by
        rw [appD_1 (by rw [List.length_map]; unfold entsOf; rw [List.length_map]; omega) rfl]
        unfold entsOf
        simp [Ent.d, ent, wOf]
      refine ⟨[some (.mu 0), some (.int U), some (.int ((sc + pl : Nat) : Int)), some (.int sc), some (.str w.s), some (.lst ((rowOf (L ++ [(v, t)])).map D.int)), some (.mu 1), some d, some (.int v), some (.int (t : Int))], [p4.m, .lst ((entsOf (sc + pl) (L ++ [(v, t)])).map Ent.d)], ⟨L ++ [(v, t)], p4, _, _, _, rfl, rfl, by rw [List.length_append, hL]; rfl, hb2, hp4.mono (by omega)⟩, fun r => ?_⟩
      generalize hdp : ((sc + pl : Nat) : Int) = dp at *
      generalize hES : (entsOf (sc + pl) L).map Ent.d = ES at *
      simp [-mkK2_ok, w_law_small_right_0_K, e3', e4, re, ca, mk, ap])
  rw [rangeD_len] at hL hp2
  have he : ∀ e ∈ entsOf (sc + pl) L, EntOk e := fun e h => by
    obtain ⟨q, hq, rfl⟩ := List.mem_map.mp h
    exact ent_ok (hb q hq).1 (by omega) (Nat.lt_of_le_of_lt (hb q hq).2 (by decide))
  have ll : (entsOf (sc + pl) L).length ≤ 100 := by unfold entsOf; rw [List.length_map]; omega
  have tot := total_ok (n := n - 1) (by omega) w sc (by omega) (entsOf (sc + pl) L) he ll
  have lr := lrun_ok (n := n - 1) (by omega) w U U0 (by omega) (rowOf L)
  have eqF : (entsOf (sc + pl) L).foldl (entS w sc) 0 = (rowOf L).foldl (fun st one => stp w U one st) 0 := by rw [fold_ent, fold_row, hU]
  rw [eqF] at tot
  have sm := same_self (n := n - 1) (by omega) ((rowOf L).foldl (fun st one => stp w U one st) 0) sc (by omega)
  refine ⟨p2, ?_, hp2.mono (by omega)⟩
  rw [s_law_small_right (by omega)]
  generalize ((sc + pl : Nat) : Int) = dp at *
  generalize (entsOf (sc + pl) L).map Ent.d = ES at *
  generalize (rowOf L).foldl (fun st one => stp w U one st) 0 = F at *
  generalize (rowOf L).map D.int = RW at *
  simp [m_law_small_right, mls_nil, e1, forR_nat (k := c) (by omega), e2, tot, lr, sm]
end K49

set_option Elab.async false
set_option linter.all false
set_option maxRecDepth 100000
set_option maxHeartbeats 1000000
namespace K49
open PySem L2 Pv
theorem stp_zero (w : Way) {u : Int} (hu : 0 < u) (st : Int) : stp w u 0 st = st := by
  have := stp_parts w (u := u) (fl := 0) (r := 0) (st := st) hu (Int.le_refl _) hu
  rw [Int.zero_mul, Int.add_zero] at this
  rw [this]
  simp [partI, liftI]
theorem iter_zero (w : Way) {u : Int} (hu : 0 < u) : ∀ (n : Nat) (st : Int), iter (stp w u 0) n st = st
  | 0, st => rfl
  | n + 1, st => by
    show iter (stp w u 0) n (stp w u 0 st) = st
    rw [stp_zero w hu, iter_zero w hu n]
theorem low0 (sc : Nat) : ent 0 0 sc = ⟨0, 0, sc⟩ := rfl
theorem entS_zero (w : Way) (sc t : Nat) (st : Int) : entS w sc st (ent 0 0 t) = st := by
  unfold entS ent
  have : amW (low 0 0).1 (low 0 0).2 sc = 0 := by simp [amW, low]
  rw [this]
  exact iter_zero w (un_pos _ _) t st
theorem long_ok {n : Nat} (hn : 8 ≤ n) {p : Pen} {k : Int} (hp : PenOk k p) (hk : k ≤ 500000) (w : Way) (sc pl : Nat) (hsc : sc ≤ 3) (hpl : pl ≤ 3) :
    ∃ p' : Pen, C n ("_law_long_right", none) [.mu 0, .int (10 ^ pl), .int ((sc + pl : Nat) : Int), .int sc, .str w.s] [p.m] = .ok (.bl true) [p'.m] ∧ PenOk (k + 100) p' := by
  generalize hU : (10 : Int) ^ pl = U
  have U0 : 0 < U := by rw [← hU]; exact Int.pow_pos (by decide)
  have U1 : U ≤ 1000000 := by
    rw [← hU]
    have : pl = 0 ∨ pl = 1 ∨ pl = 2 ∨ pl = 3 := by omega
    rcases this with rfl | rfl | rfl | rfl <;> decide
  have U2 : U.natAbs < 2 ^ 64 := by omega
  obtain ⟨s0, p1, e1, hs0, hp1⟩ := units_ok (n := n - 1) (by omega) hp (by omega) U U0 U1 28 4 rfl (by decide) (by decide) []
  obtain ⟨one, p2, e2, ho, hp2⟩ := units_ok (n := n - 1) (by omega) hp1 (by omega) U U0 U1 7 1 rfl (by decide) (by decide) []
  have e1' : C (n - 1) ("_law_units", none) [.mu 0, .int U, .int 28] [p.m] = .ok (.int s0) [p1.m] := e1
  have e2' : C (n - 1) ("_law_units", none) [.mu 0, .int U, .int 7] [p1.m] = .ok (.int one) [p2.m] := e2
  obtain ⟨d, p3, e3, d0, d1, hp3⟩ := draw_ok (n := n - 1) (by omega) hp2 (by omega) (span := 3) (by decide) (by decide) []
  -- the start, as it is used
  obtain ⟨start, hst, est⟩ : ∃ start : Int, start.natAbs < 2 ^ 250 ∧ ∀ env : Ev, env = [some (.mu 0), some (.int U), some (.int ((sc + pl : Nat) : Int)), some (.int sc), some (.str w.s), some (.int s0), some (.int one), none, none, none, none, none, none, none, none, none, none, none] →
      ifK (.ok (decide (0 < d)) [p3.m]) (sSeq (sAsg (eIf (tOf (eBin (cop .Lt) (eVar 6) (eC (.int 0)))) (eBi "abs" (aCons (eVar 5) aNil)) (eNeg (eBi "abs" (aCons (eVar 5) aNil)))) (gNm 5)) sNext) sNext env = .ok (.nx (env.set 5 (some (.int start)))) [p3.m] := by
    by_cases c : 0 < d
    · by_cases c2 : one < 0
      · refine ⟨if s0 < 0 then -s0 else s0, by split <;> omega, fun env h => ?_⟩
        subst h
        simp [c, c2]
      · refine ⟨-(if s0 < 0 then -s0 else s0), by split <;> omega, fun env h => ?_⟩
        subst h
        simp [c, c2]
    · refine ⟨s0, hs0, fun env h => ?_⟩
      subst h
      simp [c]
  have est' := est _ rfl
  obtain ⟨many, p4, e4, hm, hp4⟩ := many_ok (n := n - 1) (by omega) hp3 (by omega) start one hst ho []
  obtain ⟨spl, p5, e5, q0, q1, hp5⟩ := draw_ok (n := n - 1) (by omega) hp4 (by omega) (span := 12) (by decide) (by decide) []
  obtain ⟨spl, rfl⟩ : ∃ z : Nat, spl = z := ⟨spl.toNat, by omega⟩
  have mk1 := mk_ok (n := n - 1) (by omega) start (sc + pl) (by omega)
  have mk2 := mk_ok (n := n - 1) (by omega) one (sc + pl) (by omega)
  have mk0 : ∀ S, mkK2 (C (n - 1)) "Worth" (some [.int 0, .int 0]) S = .ok (wOf 0 0) S := mk_ok (n := n - 1) (by omega) 0 0 (by omega)
  have big : ∀ t : Nat, t ≤ many + 100 → t < 2 ^ 300 := fun t ht => by
    have h1 : (2 : Nat) ^ 300 = 2 ^ 260 * 2 ^ 40 := by rw [← Nat.pow_add]
    have h2 : (2 : Nat) ^ 40 = 1099511627776 := by decide
    rw [h1, h2]
    generalize (2 : Nat) ^ 260 = Q at *
    omega
  have okS := ent_ok (one := start) (deep := sc + pl) (t := 1) hst (by omega) (big 1 (by omega))
  have okO : ∀ t : Nat, t ≤ many + 100 → EntOk (ent one (sc + pl) t) := fun t ht => ent_ok ho (by omega) (big t ht)
  have ok0 : EntOk (ent 0 0 spl) := ent_ok (by decide) (by decide) (big spl (by omega))
  generalize hA : stp w U start 0 = A
  have fA : entS w sc 0 (ent start (sc + pl) 1) = A := by rw [ent_S, hU]; exact hA
  have fO : ∀ (st : Int) (t : Nat), entS w sc st (ent one (sc + pl) t) = iter (stp w U one) t st := fun st t => by rw [ent_S, hU]
  have F2 : ∀ t : Nat, [ent start (sc + pl) 1, ent one (sc + pl) t].foldl (entS w sc) 0 = iter (stp w U one) t A := fun t => by simp [fA, fO]
  have T2 : ∀ (x : Int) (t : Nat), x = (t : Int) → t ≤ many + 100 → ∀ S, C (n - 1) ("running_total", none) [.lst [.tup [wOf start (sc + pl), .int 1], .tup [wOf one (sc + pl), .int x]], .int sc, .str w.s] S = .ok (wOf (iter (stp w U one) t A) sc) S := fun x t hx ht S => by
    subst hx
    rw [← F2 t]
    exact total_ok (n := n - 1) (by omega) w sc (by omega) [ent start (sc + pl) 1, ent one (sc + pl) t] (fun e he => by
      simp only [List.mem_cons, List.not_mem_nil, or_false] at he
      rcases he with rfl | rfl
      · exact okS
      · exact okO t ht) (by simp) S
  have T3 : ∀ S, C (n - 1) ("running_total", none) [.lst [.tup [wOf start (sc + pl), .int 1], .tup [wOf one (sc + pl), .int (many : Int)], .tup [wOf one (sc + pl), .int 1]], .int sc, .str w.s] S = .ok (wOf (iter (stp w U one) (many + 1) A) sc) S := fun S => by
    have f3 : [ent start (sc + pl) 1, ent one (sc + pl) many, ent one (sc + pl) 1].foldl (entS w sc) 0 = iter (stp w U one) (many + 1) A := by
      simp only [List.foldl_cons, List.foldl_nil, fA, fO]
      exact (iter_add _ many 1 A).symm
    rw [← f3]
    exact total_ok (n := n - 1) (by omega) w sc (by omega) [ent start (sc + pl) 1, ent one (sc + pl) many, ent one (sc + pl) 1] (fun e he => by
      simp only [List.mem_cons, List.not_mem_nil, or_false] at he
      rcases he with rfl | rfl | rfl
      · exact okS
      · exact okO many (by omega)
      · exact okO 1 (by omega)) (by simp) S
  have T4 : ∀ S, C (n - 1) ("running_total", none) [.lst [.tup [wOf start (sc + pl), .int 1], .tup [wOf one (sc + pl), .int (spl : Int)], .tup [wOf 0 0, .int (spl : Int)], .tup [wOf one (sc + pl), .int (many : Int)]], .int sc, .str w.s] S = .ok (wOf (iter (stp w U one) (many + spl) A) sc) S := fun S => by
    have f4 : [ent start (sc + pl) 1, ent one (sc + pl) spl, ent 0 0 spl, ent one (sc + pl) many].foldl (entS w sc) 0 = iter (stp w U one) (many + spl) A := by
      simp only [List.foldl_cons, List.foldl_nil, fA, fO, entS_zero]
      rw [Nat.add_comm]
      exact (iter_add _ spl many A).symm
    rw [← f4]
    exact total_ok (n := n - 1) (by omega) w sc (by omega) [ent start (sc + pl) 1, ent one (sc + pl) spl, ent 0 0 spl, ent one (sc + pl) many] (fun e he => by
      simp only [List.mem_cons, List.not_mem_nil, or_false] at he
      rcases he with rfl | rfl | rfl | rfl
      · exact okS
      · exact okO spl (by omega)
      · exact ok0
      · exact okO many (by omega)) (by simp) S
  have szF : ∀ t : Nat, t ≤ many + 100 → (iter (stp w U one) t A).natAbs < 2 ^ 3000 := fun t ht => by
    rw [← F2 t]
    refine sz_mono (fold_sz (w := w) (sc := sc) (by omega) [ent start (sc + pl) 1, ent one (sc + pl) t] 701 0 (fun e he => by
      simp only [List.mem_cons, List.not_mem_nil, or_false] at he
      rcases he with rfl | rfl
      · exact okS
      · exact okO t ht) (by decide) (by decide)) (by simp)
  have at1 := at_ok (n := n - 1) (by omega) (iter (stp w U one) many A) sc (by omega) (szF many (by omega))
  have at2 := at_ok (n := n - 1) (by omega) (iter (stp w U one) (many + spl) A) sc (by omega) (szF (many + spl) (by omega))
  have ro : ∀ (x : Int) S, C (n - 1) ("_law_rounded", none) [.int (x * U + one), .int U, .str w.s] S = .ok (.int (stp w U one x)) S := fun x S => rounded_ok (n := n - 1) (by omega) (x * U + one) U w U0 U2 S
  have mm : ∀ (x : Int) S, bop .Mult S (.int x) (.int U) = some (.int (x * U)) := fun x S => bop_mul (mulOk_r U2)
  have isu := (iter_succ (stp w U one) many A).symm
  have sm1 := same_self (n := n - 1) (by omega) (iter (stp w U one) (many + 1) A) sc (by omega)
  have sm2 := same_self (n := n - 1) (by omega) (iter (stp w U one) (many + spl) A) sc (by omega)
  have tA := T2 (many : Int) many rfl (by omega)
  have tB := T2 ((many : Int) + 1) (many + 1) (by omega) (by omega)
  have tC := T2 ((many : Int) + (spl : Int)) (many + spl) (by omega) (by omega)
  obtain ⟨env', S', e6, y, rfl, rfl⟩ := for_inv (gNm 17) (w_law_long_right_0 (C (n - 1))) (fun j env S => ∃ y : Option D, env = [some (.mu 0), some (.int U), some (.int ((sc + pl : Nat) : Int)), some (.int sc), some (.str w.s), some (.int start), some (.int one), some (.int (many : Int)), some (.int (spl : Int)), some (.tup [wOf start (sc + pl), .int 1]), some (wOf one (sc + pl)), some (wOf (iter (stp w U one) many A) sc), some (.int (iter (stp w U one) (many + j) A)), some (.int (iter (stp w U one) (many + 1) A)), some (wOf (iter (stp w U one) (many + spl) A) sc), some (wOf (iter (stp w U one) (many + spl) A) sc), some (.int (iter (stp w U one) (many + spl) A)), y] ∧ S = [p5.m])
    (rangeD 0 (spl : Int)) 0 [some (.mu 0), some (.int U), some (.int ((sc + pl : Nat) : Int)), some (.int sc), some (.str w.s), some (.int start), some (.int one), some (.int (many : Int)), some (.int (spl : Int)), some (.tup [wOf start (sc + pl), .int 1]), some (wOf one (sc + pl)), some (wOf (iter (stp w U one) many A) sc), some (.int (iter (stp w U one) many A)), some (.int (iter (stp w U one) (many + 1) A)), some (wOf (iter (stp w U one) (many + spl) A) sc), some (wOf (iter (stp w U one) (many + spl) A) sc), some (.int (iter (stp w U one) (many + spl) A)), none] [p5.m]
    ⟨none, rfl, rfl⟩ (fun j d env S _ _ _ h => by
      obtain ⟨y, rfl, rfl⟩ := h
      refine ⟨_, _, ⟨some d, rfl, rfl⟩, fun r => ?_⟩
      have e := (iter_succ (stp w U one) (many + j) A)
      rw [show many + (j + 1) = many + j + 1 by omega, e]
      generalize ((sc + pl : Nat) : Int) = dp at *
      simp [w_law_long_right_0_K, mm, ro])
  rw [rangeD_len, show 0 + ((spl : Int) - 0).toNat = spl by omega] at e6
  refine ⟨p5, ?_, hp5.mono (by omega)⟩
  rw [s_law_long_right (by omega)]
  generalize hdp : ((sc + pl : Nat) : Int) = dp at *
  simp [-mkK2_ok, m_law_long_right, e1', e2', e3, est', e4, e5, mk1, mk2, mk0, tA, at1, mm, ro, isu, tB, sm1, T3, tC, T4, at2, sm2, forR_nat (k := spl) (by omega), e6]
end K49

set_option Elab.async false
set_option linter.all false
set_option maxRecDepth 100000
set_option maxHeartbeats 1000000
namespace K49
open PySem L2 Pv
theorem pen_start {n : Nat} (hn : 1 ≤ n) (xs : List Int) : C n ("_law_pen", none) [.scr xs] [] = .ok (.mu 0) [Pen.m ⟨cutD xs none (some 63), 0, 0⟩] := by
  rw [s_law_pen hn]
  have e : (cutD (xs.map D.int) none (some 63)) = (cutD xs none (some 63)).map D.int := by
    unfold cutD
    rw [List.length_map, List.map_take, List.map_drop]
  have h : mDct [((eC (.str "cells")), (eBi "list" (aCons (eSl (eVar 0) none (some (eC (.int 63)))) aNil))), ((eC (.str "at")), (eC (.int 0))), ((eC (.str "left")), (eC (.int 0)))] (startD ["_law_script"] [.scr xs]) [] = if noMuk ([(Sum.inr ("cells" : Str), D.lst (cutD (xs.map D.int) none (some 63))), (.inr ("at" : Str), .int 0), (.inr ("left" : Str), .int 0)] : List (L2.Key × D)) = true then .ok (.mu 0) [.dct ([(Sum.inr ("cells" : Str), D.lst (cutD (xs.map D.int) none (some 63))), (.inr ("at" : Str), .int 0), (.inr ("left" : Str), .int 0)] : List (L2.Key × D))] else .bad := by kernel_rfl
  have nm : ∀ l : List Int, noMus (l.map D.int) = true := fun l => by
    induction l with
    | nil => rfl
    | cons a l ih => exact Bool.and_eq_true_iff.mpr ⟨rfl, ih⟩
  simp only [m_law_pen, sSeq_K, sRet_K]
  rw [h, e, if_pos (by show (noMus _ && _) = true; rw [nm]; rfl)]
  rfl
theorem pen_ok0 (xs : List Int) : PenOk 0 ⟨cutD xs none (some 63), 0, 0⟩ := by
  refine ⟨?_, Int.le_refl _, Int.le_refl _⟩
  show (cutD xs none (some 63)).length ≤ 63
  unfold cutD
  have h : HT.sIx xs.length xs.length (some 63) ≤ 63 := by
    unfold HT.sIx
    simp
    omega
  rw [List.length_take]
  omega
theorem law_ok {n : Nat} (hn : 10 ≤ n) (xs : List Int) (hx : xs.length ≤ 63) : ∃ S, C n ("law", none) [.scr xs] [] = .ok (.bl true) S := by
  rw [s_law (by omega)]
  have ps := pen_start (n := n - 1) (by omega) xs
  have hl : ∃ r : Nat, (3 : Int) + (if (xs.length : Int) < 5 then (xs.length : Int) else 5) = r ∧ r ≤ 8 := ⟨((3 : Int) + (if (xs.length : Int) < 5 then (xs.length : Int) else 5)).toNat, by split <;> omega, by split <;> omega⟩
  obtain ⟨r, hr, r8⟩ := hl
  have sm0 : ∀ (sc : Nat) S, C (n - 1) ("_law_same", none) [wOf 0 sc, .int 0, .int 0] S = .ok (.bl true) S := fun sc S => by
    have h := same_ok (n := n - 1) (by omega) 0 0 0 0 (by decide) S
    unfold wOf
    rw [low_zero]
    exact h
  have tot0 : ∀ (sc : Nat) (w : Way), sc ≤ 3 → ∀ S, C (n - 1) ("running_total", none) [.lst [], .int (sc : Int), .str w.s] S = .ok (wOf 0 sc) S := fun sc w h S => total_ok (n := n - 1) (by omega) w sc (by omega) [] (fun e he => absurd he List.not_mem_nil) (by decide) S
  have step0 : ∀ (sc pl : Nat), sc ≤ 3 → pl ≤ 3 → ∀ (p : Pen) (k : Int), PenOk k p → k ≤ 100000 → ∀ (a b c x y : Option D) (d : D), ∃ (w : Way) (p' : Pen), PenOk (k + 301) p' ∧
      ∀ r, foK (gNm 7 d [a, some (.mu 0), b, some (.int (sc : Int)), c, some (.int (10 ^ pl)), some (.int ((sc + pl : Nat) : Int)), x, y] [p.m]) (gNm 7) (w_law_0 (C (n - 1))) r =
        forD (gNm 7) (w_law_0 (C (n - 1))) r [a, some (.mu 0), b, some (.int (sc : Int)), c, some (.int (10 ^ pl)), some (.int ((sc + pl : Nat) : Int)), some d, some (.str w.s)] [p'.m] := fun sc pl hsc hpl p k hp hk a b c x y d => by
    obtain ⟨w, p1, e1, hp1⟩ := pick_ok (n := n - 1) (by omega) hp (by omega) []
    obtain ⟨p2, e2, hp2⟩ := small_ok (n := n - 1) (by omega) hp1 (by omega) w sc pl hsc hpl
    obtain ⟨p3, e3, hp3⟩ := long_ok (n := n - 1) (by omega) hp2 (by omega) w sc pl hsc hpl
    have wy := ways_ok (n := n - 1) (by omega) [p.m]
    refine ⟨w, p3, hp3.mono (by omega), fun r => ?_⟩
    generalize ([Way.floor, .ceiling, .cut, .away, .halfup, .halfdown, .halfeven, .halfaway, .halfcut].map fun w => D.str w.s) = WL at *
    generalize ((sc + pl : Nat) : Int) = dp at *
    generalize (10 : Int) ^ pl = U at *
    simp [w_law_0_K, wy, e1, e2, e3]
  have f2 : ∀ (S : Sto) g s1 env, forRK2 (.int 0) (.ok (.int 2) S) g s1 env = forD g s1 (rangeD 0 2) env S := fun S g s1 env => forR_nat (k := 2) (by decide)
  obtain ⟨env', S', e6, p, a2, a3, a4, a5, a6, a7, a8, rfl, rfl, hp⟩ := for_inv (gNm 2) (w_law_1 (C (n - 1))) (fun j env S => ∃ (p : Pen) (a2 a3 a4 a5 a6 a7 a8 : Option D), env = [some (.scr xs), some (.mu 0), a2, a3, a4, a5, a6, a7, a8] ∧ S = [p.m] ∧ PenOk (700 * (j : Int)) p)
    (rangeD 0 (r : Int)) 0 [some (.scr xs), some (.mu 0), none, none, none, none, none, none, none] [Pen.m ⟨cutD xs none (some 63), 0, 0⟩]
    ⟨_, none, none, none, none, none, none, none, rfl, rfl, by simpa using pen_ok0 xs⟩ (fun j d env S _ hj _ h => by
      obtain ⟨p, a2, a3, a4, a5, a6, a7, a8, rfl, rfl, hp⟩ := h
      rw [rangeD_len] at hj
      obtain ⟨sc, p1, e1, s0, s1, hp1⟩ := draw_ok (n := n - 1) (by omega) hp (by omega) (span := 4) (by decide) (by decide) []
      obtain ⟨pl, p2, e2, l0, l1, hp2⟩ := draw_ok (n := n - 1) (by omega) hp1 (by omega) (span := 4) (by decide) (by decide) []
      obtain ⟨sc, rfl⟩ : ∃ z : Nat, sc = z := ⟨sc.toNat, by omega⟩
      obtain ⟨pl, rfl⟩ : ∃ z : Nat, pl = z := ⟨pl.toNat, by omega⟩
      have tn := tens_ok (n := n - 1) (by omega) pl (by omega)
      obtain ⟨w1, p3, hp3, st1⟩ := step0 sc pl (by omega) (by omega) p2 _ hp2 (by omega) (some (.scr xs)) (some d) (some (.int (pl : Int))) a7 a8 (.int 0)
      obtain ⟨w2, p4, hp4, st2⟩ := step0 sc pl (by omega) (by omega) p3 _ hp3 (by omega) (some (.scr xs)) (some d) (some (.int (pl : Int))) (some (.int 0)) (some (.str w1.s)) (.int 1)
      have il : forD (gNm 7) (w_law_0 (C (n - 1))) (rangeD 0 2) [some (.scr xs), some (.mu 0), some d, some (.int (sc : Int)), some (.int (pl : Int)), some (.int (10 ^ pl)), some (.int ((sc + pl : Nat) : Int)), a7, a8] [p2.m] =
          .ok (.nx [some (.scr xs), some (.mu 0), some d, some (.int (sc : Int)), some (.int (pl : Int)), some (.int (10 ^ pl)), some (.int ((sc + pl : Nat) : Int)), some (.int 1), some (.str w2.s)]) [p4.m] := by
        have er : rangeD 0 2 = [.int 0, .int 1] := by kernel_rfl
        rw [er, forD_K, st1, forD_K, st2, forD_nil]
      refine ⟨_, _, ⟨p4, some d, some (.int (sc : Int)), some (.int (pl : Int)), some (.int (10 ^ pl)), some (.int ((sc + pl : Nat) : Int)), some (.int 1), some (.str w2.s), rfl, rfl, hp4.mono (by omega)⟩, fun r => ?_⟩
      have t0 := tot0 sc w2 (by omega)
      have ed : (sc : Int) + (pl : Int) = ((sc + pl : Nat) : Int) := by omega
      simp only [w_law_1_K, gNm_ok, foK_ok, sSeq_K, sAsg_K, eTup_K, aCons_K, eCall_K]
      rw [show ([some (.scr xs), some (.mu 0), a2, a3, a4, a5, a6, a7, a8] : Ev).set 2 (some d) = [some (.scr xs), some (.mu 0), some d, a3, a4, a5, a6, a7, a8] from rfl]
      simp [e1, e2, tn]
      rw [ed]
      generalize ((sc + pl : Nat) : Int) = dp at *
      generalize (10 : Int) ^ pl = U at *
      simp [f2, il, t0, sm0])
  refine ⟨[p.m].take 0, ?_⟩
  have hr' := hr
  simp only [m_law, sSeq_K, sAsg_K, startD_eq, eCall_K]
  simp [ps]
  rw [hr, forR_nat (by omega), e6]
  simp
end K49

set_option Elab.async false
set_option linter.all false
set_option maxRecDepth 100000
set_option maxHeartbeats 0
namespace K49
open PySem L2 Pv
abbrev R : PySem.W.OpenRow := PySem.W.OpenLaw.row PySem.Challenge.rw_figurestay_k49_whole_running_totals
def loose : List PySem.Str := (["FigureError", "BadValue", "TooFine", "BadEntry", "ten_to", "is_integer", "is_whole", "need_integer", "need_whole", "lowered", "Worth", "worth_of", "worth_sum", "multiplied", "WAYS", "need_way", "lift", "part_of", "divided_by", "divided", "is_entry", "need_entries", "need_scale_and_way", "split_worth", "is_loose", "alone", "drifted", "added", "run_through", "running_total"] : List PySem.Str) ++ (["_law_pen", "_law_draw", "_law_pick", "_law_great", "_law_signed", "_law_ways", "_law_tens", "_law_rounded", "_law_own", "_law_same", "_law_units", "_law_run", "_law_at", "_law_small_right", "_law_many", "_law_long_right"] : List PySem.Str)
abbrev hk : PySem.W.Hook := pd.hook 5
def ob (s : PySem.W.SharedT) : He.AlD := pd.obsG 5 (HandSHeadRun.getT s)
theorem ob_eq (s : PySem.W.SharedT) : ob s = hk.obs s.abs := PD.obsG_eq (HandSHeadRun.getT_eq s)
theorem run (w : World) : HandSHeadRun.RunEq R (PySem.W.view R.prog [52]) hk ob 4000 loose w := by
  intro os
  kernel_rfl
theorem pd_ok : pd.ok = true := by decide +kernel
theorem law_at : pd.at ("law", none) = some f_law := by rfl

end K49
open PySem PySem.W PySem.Calls PyProof.Rows
theorem K49_head (ht : ∀ xs : List Int, xs.length ≤ 63 → ∃ S, Pv.callF K49.pd.pol K49.pd.at 100 20 20 ("law", none) [.scr xs] [] = .ok (.bl true) S) : PySem.Challenge.rw_figurestay_k49_whole_running_totals.Holds := by
  w_on; o_law
  refine HandSHeadRun.head_any (r := OpenLaw.row PySem.Challenge.rw_figurestay_k49_whole_running_totals) (q := view (OpenLaw.row PySem.Challenge.rw_figurestay_k49_whole_running_totals).prog [52]) (H := K49.hk) (ob := K49.ob) (M := 4000) (loose := K49.loose) (d := HandSHeadRun.topDef (OpenLaw.row PySem.Challenge.rw_figurestay_k49_whole_running_totals).prog 52) (kwd := []) K49.ob_eq
    (by kernel_rfl) (fun s => by kernel_rfl) K49.run (by kernel_rfl) (by kernel_rfl) (by kernel_rfl) (by rfl) (by first | assumption | decide +kernel) (by decide +kernel) ⟨rfl, rfl, rfl, rfl, rfl, by decide +kernel⟩ ?hw ?hc
  case hw => w_witness2
  case hc =>
    refine L2.walk_ofE (l := PySem.Challenge.rw_figurestay_k49_whole_running_totals) (n := 63) (k := 2 * 20) (x := "_law_script") (CX := Pv.CXs (PySem.Challenge.rw_figurestay_k49_whole_running_totals).prog) rfl (by decide) (by kernel_rfl) ⟨rfl, by decide, by decide⟩ ?F (fun H s e s' z => Pv.cxs_no H s e s' z)
    intro w mg fa h Y G hmg0
    obtain ⟨K, KX, c⟩ := Y
    have hmg : mg ("law" : PySem.Str) = some (.ref fa) := by
      have e : (HandSHeadRun.topDef (OpenLaw.row PySem.Challenge.rw_figurestay_k49_whole_running_totals).prog 52).name = ("law" : PySem.Str) := by kernel_rfl
      rw [← e]
      exact hmg0
    exact Pv.PD.law K49.pd_ok KX G c K49.law_at (by decide +kernel) rfl (by decide +kernel) hmg 63 ht


set_option maxHeartbeats 0 in
theorem PySem.Challenge.cw_figurestay_k49_whole_running_totals_holds : PySem.Challenge.rw_figurestay_k49_whole_running_totals.Holds := by
  exact K49_head (fun xs h => K49.law_ok (by decide) xs h)
