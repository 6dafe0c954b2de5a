import PyProof.Rows.All
import Wide.All
import OpenK.AllK
import Wide.FinOn
import PySem.Challenge.RW_ui0503_01
set_option maxRecDepth 100000
set_option Elab.async false
set_option linter.all false
namespace Mine
open PySem PySem.W PySem.Calls PyProof.Rows

/-- values: data by its content, objects that change by a number -/
inductive RV where
  | none
  | bool (b : Bool)
  | int (i : Int)
  | str (s : Str)
  | tup (vs : List RV)
  | rng (a b c : Int)
  | ref (i : Nat)
  | fn (x : String)
  | cls (x : String)
  | bi (x : String)
  | ty (x : String)
  | fdict (es : List (Str × RV))
  | arg (vs : List RV)

/-- objects -/
inductive RO where
  | list (vs : List RV)
  | dict (es : List (RV × RV))
  | set (es : List RV)
  | inst (c : String) (fs : List (String × RV))

abbrev Loc := List (String × RV)
abbrev RH := List RO

def setL {α : Type} (x : String) (v : α) : List (String × α) → List (String × α)
  | [] => [(x, v)]
  | (y, u) :: r => if y = x then (x, v) :: r else (y, u) :: setL x v r

inductive RTg where
  | name (x : String)
  | names (xs : List String)

inductive RE where
  | const (v : RV)
  | loc (x : String)
  | glb (x : String)
  | boolop (and : Bool) (es : List RE)
  | bin (op : Operator) (a b : RE)
  | not (a : RE)
  | neg (a : RE)
  | cond (t a b : RE)
  | list (es : List RE)
  | tup (es : List RE)
  | dict0
  | comp1 (elt : RE) (x : String) (it : RE) (ifs : List RE)
  | comp2 (elt : RE) (x : String) (it : RE) (y : String) (it2 : RE) (ifs : List RE)
  | cmp (a : RE) (ops : List CmpOp) (es : List RE)
  | call (f : RE) (args : List RE)
  | sortk (arg : RE) (x : String) (body : RE)
  | meth (o : RE) (name : String) (args : List RE)
  | attr (o : RE) (name : String)
  | sub (o i : RE)
  | slice (o : RE) (l u s : Option RE)

inductive RT where
  | expr (e : RE)
  | ret (e : Option RE)
  | asg (t : RTg) (e : RE)
  | asgAttr (o : RE) (x : String) (e : RE)
  | asgSub (o i : RE) (e : RE)
  | ite (t : RE) (a b : List RT)
  | for_ (t : RTg) (it : RE) (body : List RT)
  | while_ (t : RE) (body : List RT)
  | try_ (body : List RT)
  | delSub (o i : RE)
  | raise_
  | brk
  | cont
  | pass

structure RFn where
  params : List String
  dflts : List RV
  body : List RT

structure RCls where
  ms : List (String × RFn)
  attrs : List String

structure RProg where
  funs : List (String × RFn)
  clss : List (String × RCls)
  vals : List (String × RV)

inductive RFl where
  | next | brk | cont
  | ret (v : RV)
end Mine

namespace Mine
open PySem PySem.W PySem.Calls PyProof.Rows PySem.SeqAt

/-! what a value reads as -/
mutual
def toPD : RV → Option PyData
  | .none => some .none
  | .bool b => some (.bool b)
  | .int i => some (.int i)
  | .str s => some (.str s)
  | .tup vs => (toPDs vs).map .tuple
  | _ => none
def toPDs : List RV → Option (List PyData)
  | [] => some []
  | v :: vs => match toPD v, toPDs vs with
    | some d, some ds => some (d :: ds)
    | _, _ => none
end

/-- one level of lists over flat data -/
def toPDH (H : RH) : RV → Option PyData
  | .ref i => match H[i]? with
    | some (.list vs) => (toPDs vs).map .list
    | _ => none
  | v => toPD v
def toPDHs (H : RH) : List RV → Option (List PyData)
  | [] => some []
  | v :: vs => match toPDH H v, toPDHs H vs with
    | some d, some ds => some (d :: ds)
    | _, _ => none
/-- two levels -/
def toPDHH (H : RH) : RV → Option PyData
  | .ref i => match H[i]? with
    | some (.list vs) => (toPDHs H vs).map .list
    | _ => none
  | v => toPD v

def eqP (H : RH) (a b : RV) : Option Bool := match toPDHH H a, toPDHH H b with
  | some x, some y => if shaped x && shaped y then some (PyData.eqv x y) else none
  | _, _ => none

def isNoneR : RV → Bool
  | .none => true
  | _ => false

/-- keys -/
def keyEq (a b : RV) : Bool := match toPD a, toPD b with
  | some x, some y => PyData.eqv x y
  | _, _ => false
def dget (es : List (RV × RV)) (k : RV) : Option RV := (es.find? fun p => keyEq p.1 k).map (·.2)
def keyOk : RV → Bool
  | .str _ => true
  | _ => false
/-- membership -/
def inP (H : RH) (a b : RV) : Option Bool := match b with
  | .tup vs => match toPD a, toPDs vs with
    | some d, some ds => if shaped d && shaped (.tuple ds) then some (ds.any fun y => PyData.eqv y d) else none
    | _, _ => none
  | .rng x y c => none
  | .fdict es => match a with
    | .str s => some ((es.lookup s).isSome)
    | _ => none
  | .ref i => match H[i]? with
    | some (.list vs) => match toPD a, toPDs vs with
      | some d, some ds => if shaped d && shaped (.list ds) then some (ds.any fun y => PyData.eqv y d) else none
      | _, _ => none
    | some (.dict es) => if keyOk a then some (dget es a).isSome else none
    | some (.set es) => if keyOk a then some (es.any fun y => keyEq y a) else none
    | _ => none
  | _ => none

def cmpP (H : RH) : CmpOp → RV → RV → Option Bool
  | .Eq, a, b => eqP H a b
  | .NotEq, a, b => (eqP H a b).map (!·)
  | .Lt, .int x, .int y => some (decide (x < y))
  | .LtE, .int x, .int y => some (decide (x ≤ y))
  | .Gt, .int x, .int y => some (decide (y < x))
  | .GtE, .int x, .int y => some (decide (y ≤ x))
  | .Is, a, .none => some (isNoneR a)
  | .IsNot, a, .none => some (!isNoneR a)
  | .In, a, b => inP H a b
  | .NotIn, a, b => (inP H a b).map (!·)
  | _, _, _ => none

def truthR (H : RH) : RV → Option Bool
  | .none => some false
  | .bool b => some b
  | .int i => some (i != 0)
  | .str s => if s.length ≤ sizeLine then some (s.length != 0) else none
  | .tup vs => if vs.length ≤ sizeLine then some (vs.length != 0) else none
  | .ref i => match H[i]? with
    | some (.list vs) => if vs.length ≤ sizeLine then some (vs.length != 0) else none
    | some (.dict es) => if es.length ≤ sizeLine then some (es.length != 0) else none
    | some (.set es) => if es.length ≤ sizeLine then some (es.length != 0) else none
    | _ => none
  | _ => none

def smallI (x : Int) : Prop := x.natAbs < 2 ^ 64

def binR (op : Operator) (a b : RV) (H : RH) (Q : RV → RH → Prop) : Prop := match op, a, b with
  | .Add, .int x, .int y => Q (.int (x + y)) H
  | .Sub, .int x, .int y => Q (.int (x - y)) H
  | .Mult, .int x, .int y => smallI x ∧ smallI y ∧ Q (.int (x * y)) H
  | .FloorDiv, .int x, .int y => y ≠ 0 ∧ Q (.int (Int.fdiv x y)) H
  | .Mod, .int x, .int y => y ≠ 0 ∧ Q (.int (Int.fmod x y)) H
  | .Add, .str x, .str y => (x ++ y).length ≤ sizeLine ∧ Q (.str (x ++ y)) H
  | .Add, .ref i, .ref j => match H[i]?, H[j]? with
    | some (.list xs), some (.list ys) => (xs ++ ys).length ≤ sizeLine ∧ Q (.ref H.length) (H ++ [.list (xs ++ ys)])
    | _, _ => False
  | _, _, _ => False

/-- the items that a loop goes through -/
def rngL (a b c : Int) : List RV := if 0 < c then (List.range ((b - a + c - 1) / c).toNat).map fun (k : Nat) => RV.int (a + c * (k : Int)) else []

def itemsR (H : RH) : RV → Option (List RV)
  | .tup vs => some vs
  | .rng a b c => if 0 < c then some (rngL a b c) else none
  | .ref i => match H[i]? with
    | some (.list vs) => some vs
    | some (.dict es) => some (es.map (·.1))
    | _ => none
  | _ => none
/-- the object that is gone through stands as it stood -/
def srcOf (H : RH) (v : RV) (H' : RH) : Prop := match v with
  | .ref i => H'[i]? = H[i]?
  | _ => True

def asgT : RTg → RV → Loc → Option Loc
  | .name x, v, loc => some (setL x v loc)
  | .names xs, .tup vs, loc => if xs.length = vs.length then some ((xs.zip vs).foldl (fun l p => setL p.1 p.2 l) loc) else none
  | _, _, _ => none

def lenR (H : RH) : RV → Option Nat
  | .arg vs => some vs.length
  | .str s => some s.length
  | .tup vs => some vs.length
  | .ref i => match H[i]? with
    | some (.list vs) => some vs.length
    | some (.dict es) => none
    | some (.set es) => some es.length
    | _ => none
  | _ => none

def idxR (k : Int) (n : Nat) : Option Nat := if 0 ≤ k ∧ k < (n : Int) ∧ k < 2 ^ 62 then some k.toNat else none

def subR (H : RH) : RV → RV → Option RV
  | .arg vs, .int k => (idxR k vs.length).bind (vs[·]?)
  | .tup vs, .int k => (idxR k vs.length).bind (vs[·]?)
  | .str s, .int k => none
  | .fdict es, .str s => es.lookup s
  | .ref i, k => match H[i]?, k with
    | some (.list vs), .int k => (idxR k vs.length).bind (vs[·]?)
    | some (.dict es), k => if keyOk k then dget es k else none
    | _, _ => none
  | _, _ => none

abbrev CallTy := RV → List RV → RH → (RV → RH → Prop) → Prop
/-- a method of a class of the text's own: the callee's name is the class's and its own -/
abbrev MethTy := String → String → List RV → RH → (RV → RH → Prop) → Prop
end Mine

namespace Mine
open PySem PySem.W PySem.Calls PyProof.Rows

def biNames : List String := ["len", "abs", "sorted", "sum", "max", "min", "isinstance"]
def tyNames : List String := ["range", "set", "tuple", "str", "list", "dict", "int"]
abbrev PV := RV → RH → Prop
abbrev PB := Bool → RH → Prop
abbrev UTy := RFn → List RV → RH → PV → Prop

def sumP : List RV → Option Int
  | [] => some 0
  | .int i :: r => (sumP r).map (i + ·)
  | _ => none
def intsP : List RV → Option (List Int)
  | [] => some []
  | .int i :: r => (intsP r).map (i :: ·)
  | _ => none
def strsP : List RV → Option (List Str)
  | [] => some []
  | .str s :: r => (strsP r).map (s :: ·)
  | _ => none

/-- texts in order -/
def leS (a b : Str) : Bool := !(decide (b.cps.toList < a.cps.toList))
def insS (x : Str) : List Str → List Str
  | [] => [x]
  | y :: r => if leS x y then x :: y :: r else y :: insS x r
def sortS : List Str → List Str
  | [] => []
  | x :: r => insS x (sortS r)

def maxL : List Int → Option Int
  | [] => none
  | x :: r => some (r.foldl (fun a b => if a < b then b else a) x)
def minL : List Int → Option Int
  | [] => none
  | x :: r => some (r.foldl (fun a b => if b < a then b else a) x)

def nubS : List Str → List Str
  | [] => []
  | x :: r => if r.contains x then nubS r else x :: nubS r

def fitI (x : Int) : Prop := -(2 ^ 63) ≤ x ∧ x < 2 ^ 63

/-- calls of the built-in functions -/
def biR (x : String) (args : List RV) (H : RH) (Q : PV) : Prop :=
  if x = "len" then match args with
    | [v] => match lenR H v with
      | some n => (n : Int) < 2 ^ 63 ∧ Q (.int n) H
      | none => False
    | _ => False
  else if x = "abs" then match args with
    | [.int i] => Q (.int (i.natAbs : Int)) H
    | _ => False
  else if x = "sorted" then False
  else if x = "sum" then False
  else if x = "max" then match args with
    | [.tup vs] => False
    | [.int a, .int b] => Q (.int (if a < b then b else a)) H
    | [.int a, .int b, .int c] => Q (.int (if (if a < b then b else a) < c then c else (if a < b then b else a))) H
    | _ => False
  else False

/-- calls of the built-in types -/
def tyR (x : String) (args : List RV) (H : RH) (Q : PV) : Prop :=
  False

/-- calls of the methods of built-in objects -/
def mbR (o : RV) (m : String) (args : List RV) (H : RH) (Q : PV) : Prop := match o with
  | .ref i => match H[i]? with
    | some (.list vs) =>
      if m = "append" then match args with
        | [v] => (vs.length + 1 ≤ sizeLine) ∧ Q .none (H.set i (.list (vs ++ [v])))
        | _ => False
      else False
    | _ => False
  | .str s =>
    if m = "split" then match args with
      | [] => Q (.ref H.length) (H ++ [.list ((Txt.words s).map .str)])
      | _ => False
    else False
  | _ => False

/-- whether a class's objects may bear a name of their own -/
def attrOk (G : RProg) (c x : String) : Bool := match G.clss.lookup c with
  | some k => k.attrs.contains x
  | none => false
def fieldR (G : RProg) (H : RH) (o : RV) (x : String) : Option RV := match o with
  | .ref i => match H[i]? with
    | some (.inst c fs) => if attrOk G c x then (match fs.lookup x with | some (.bi _) => none | r => r) else none
    | _ => none
  | _ => none

section
variable (G : RProg) (U : UTy)

def callR (f : RV) (args : List RV) (H : RH) (Q : PV) : Prop := match f with
  | .fn x => match G.funs.lookup x with
    | some d => U d args H Q
    | none => False
  | .cls c => match (G.clss.lookup c).bind (·.ms.lookup "__init__") with
    | some d => U d (.ref H.length :: args) (H ++ [.inst c []]) fun r H' => r = .none ∧ Q (.ref H.length) H'
    | none => False
  | .bi x => biR x args H Q
  | .ty x => tyR x args H Q
  | _ => False

/-- whether a callee can be called hangs on nothing but itself -/
def callable : RV → Bool
  | .fn x => (G.funs.lookup x).isSome
  | .cls c => ((G.clss.lookup c).bind (·.ms.lookup "__init__")).isSome
  | .bi _ => true
  | .ty _ => true
  | _ => false

/-- what a method's name means -/
inductive MK where
  | own (d : RFn)
  | blt (T : String)
def methK (H : RH) (o : RV) (m : String) : Option MK := match o with
  | .ref i => match H[i]? with
    | some (.inst c fs) => match fs.lookup m, (G.clss.lookup c).bind (·.ms.lookup m) with
      | none, some d => some (.own d)
      | _, _ => none
    | some (.list _) => if ["append"].contains m then some (.blt "list") else none
    | some (.dict _) => none
    | some (.set _) => none
    | _ => none
  | .str _ => if ["split"].contains m then some (.blt "str") else none
  | _ => none

def globR (x : String) : Option RV :=
  if (G.funs.lookup x).isSome then some (.fn x)
  else if (G.clss.lookup x).isSome then some (.cls x)
  else match G.vals.lookup x with
    | some v => some v
    | none =>
      if biNames.contains x then some (.bi x)
      else if tyNames.contains x then some (.ty x)
      else none

/-- a comprehension's turns: what is collected -/
def wpTurns (turn : RV → RH → (Option RV → RH → Prop) → Prop) (src : RH → Prop) : List RV → List RV → RH → (List RV → RH → Prop) → Prop
  | [], acc, H, Q => src H ∧ Q acc H
  | v :: vs, acc, H, Q => src H ∧ turn v H fun r H' => wpTurns turn src vs (match r with | some x => acc ++ [x] | none => acc) H' Q

mutual
def wpE : RE → Loc → RH → PV → Prop
  | .const v, _, H, Q => Q v H
  | .loc x, loc, H, Q => match loc.lookup x with
    | some v => Q v H
    | none => False
  | .glb x, _, H, Q => match globR G x with
    | some v => Q v H
    | none => False
  | .boolop b es, loc, H, Q => wpBool b es loc H Q
  | .bin op a b, loc, H, Q => wpE a loc H fun x H₁ => wpE b loc H₁ fun y H₂ => binR op x y H₂ Q
  | .not a, loc, H, Q => wpE a loc H fun v H₁ => match truthR H₁ v with
    | some b => Q (.bool (!b)) H₁
    | none => False
  | .neg a, loc, H, Q => wpE a loc H fun v H₁ => match v with
    | .int i => Q (.int (-i)) H₁
    | _ => False
  | .cond t a b, loc, H, Q => wpT t (fun l H' Q' => wpE t l H' Q') loc H fun c H₁ => if c then wpE a loc H₁ Q else wpE b loc H₁ Q
  | .list es, loc, H, Q => wpEs es loc H fun vs H₁ => vs.length ≤ sizeLine ∧ Q (.ref H₁.length) (H₁ ++ [.list vs])
  | .tup es, loc, H, Q => wpEs es loc H fun vs H₁ => vs.length ≤ sizeLine ∧ Q (.tup vs) H₁
  | .dict0, _, H, Q => Q (.ref H.length) (H ++ [.dict []])
  | .comp1 elt x it ifs, loc, H, Q => False
  | .comp2 elt x it y it2 ifs, loc, H, Q => False
  | .cmp a ops es, loc, H, Q => wpE a loc H fun v H₁ => wpCmp v ops es loc H₁ Q
  | .call f args, loc, H, Q => wpE f loc H fun fv H₁ => callable G fv = true ∧ wpEs args loc H₁ fun vs H₂ => callR G U fv vs H₂ Q
  | .sortk _ _ _, _, _, _ => False
  | .meth o m args, loc, H, Q => False
  | .attr o x, loc, H, Q => wpE o loc H fun ov H₁ => match fieldR G H₁ ov x with
    | some v => Q v H₁
    | none => False
  | .sub o i, loc, H, Q => wpE o loc H fun ov H₁ => wpE i loc H₁ fun iv H₂ => match subR H₂ ov iv with
    | some v => Q v H₂
    | none => False
  | .slice _ _ _ _, _, _, _ => False
def wpT : RE → (Loc → RH → PV → Prop) → Loc → RH → PB → Prop
  | .not a, _, loc, H, Q => wpT a (fun l H' Q' => wpE a l H' Q') loc H fun b H₁ => Q (!b) H₁
  | .boolop b es, _, loc, H, Q => wpTs b es loc H Q
  | .cond t a b, _, loc, H, Q => wpT t (fun l H' Q' => wpE t l H' Q') loc H fun c H₁ => if c then wpT a (fun l H' Q' => wpE a l H' Q') loc H₁ Q else wpT b (fun l H' Q' => wpE b l H' Q') loc H₁ Q
  | .cmp a ops es, _, loc, H, Q => wpE a loc H fun v H₁ => wpCmpT v ops es loc H₁ Q
  | _, whole, loc, H, Q => whole loc H fun v H₁ => match truthR H₁ v with
    | some b => Q b H₁
    | none => False
def wpTs (and : Bool) : List RE → Loc → RH → PB → Prop
  | [], _, H, Q => Q and H
  | e :: es, loc, H, Q => wpT e (fun l H' Q' => wpE e l H' Q') loc H fun b H₁ => if b = and then wpTs and es loc H₁ Q else Q b H₁
def wpIfs : List RE → Loc → RH → PB → Prop
  | [], _, H, Q => Q true H
  | e :: es, loc, H, Q => wpT e (fun l H' Q' => wpE e l H' Q') loc H fun b H₁ => if b then wpIfs es loc H₁ Q else Q false H₁
def wpEs : List RE → Loc → RH → (List RV → RH → Prop) → Prop
  | [], _, H, Q => Q [] H
  | e :: es, loc, H, Q => wpE e loc H fun v H₁ => wpEs es loc H₁ fun vs H₂ => Q (v :: vs) H₂
def wpBool (and : Bool) : List RE → Loc → RH → PV → Prop
  | [], _, _, _ => False
  | e :: es, loc, H, Q => wpE e loc H fun v H₁ => match es with
    | [] => Q v H₁
    | _ :: _ => match truthR H₁ v with
      | some b => if b = and then wpBool and es loc H₁ Q else Q v H₁
      | none => False
def wpCmp (v : RV) : List CmpOp → List RE → Loc → RH → PV → Prop
  | [op], [e], loc, H, Q => wpE e loc H fun u H₁ => match cmpP H₁ op v u with
    | some b => Q (.bool b) H₁
    | none => False
  | op :: ops, e :: es, loc, H, Q => wpE e loc H fun u H₁ => match cmpP H₁ op v u with
    | some true => wpCmp u ops es loc H₁ Q
    | some false => Q (.bool false) H₁
    | none => False
  | _, _, _, _, _ => False
def wpCmpT (v : RV) : List CmpOp → List RE → Loc → RH → PB → Prop
  | [op], [e], loc, H, Q => wpE e loc H fun u H₁ => match cmpP H₁ op v u with
    | some b => Q b H₁
    | none => False
  | op :: ops, e :: es, loc, H, Q => wpE e loc H fun u H₁ => match cmpP H₁ op v u with
    | some true => wpCmpT u ops es loc H₁ Q
    | some false => Q false H₁
    | none => False
  | _, _, _, _, _ => False
end
end
end Mine

namespace Mine
open PySem PySem.W PySem.Calls PyProof.Rows

abbrev PF := RFl → Loc → RH → Prop

def wpFor (body : Loc → RH → PF → Prop) (t : RTg) (src : RH → Prop) : List RV → Loc → RH → PF → Prop
  | [], loc, H, Q => src H ∧ Q .next loc H
  | v :: vs, loc, H, Q => src H ∧ match asgT t v loc with
    | some loc₁ => body loc₁ H fun fl loc₂ H₂ => match fl with
      | .next | .cont => wpFor body t src vs loc₂ H₂ Q
      | .brk => Q .next loc₂ H₂
      | .ret r => Q (.ret r) loc₂ H₂
    | none => False

def wpWhile (test : Loc → RH → PB → Prop) (body : Loc → RH → PF → Prop) : Nat → Loc → RH → PF → Prop
  | 0, _, _, _ => False
  | n + 1, loc, H, Q => test loc H fun b H₁ => if b then body loc H₁ fun fl loc₂ H₂ => match fl with
      | .next | .cont => wpWhile test body n loc₂ H₂ Q
      | .brk => Q .next loc₂ H₂
      | .ret r => Q (.ret r) loc₂ H₂
    else Q .next loc H₁

def setField (G : RProg) (H : RH) (o : RV) (x : String) (v : RV) : Option RH := match o with
  | .ref i => match H[i]? with
    | some (.inst c fs) => if attrOk G c x && decide (fs.length < 900) then some (H.set i (.inst c (setL x v fs))) else none
    | _ => none
  | _ => none

def putD (k v : RV) : List (RV × RV) → List (RV × RV)
  | [] => [(k, v)]
  | (k', v') :: r => if keyEq k' k then (k', v) :: r else (k', v') :: putD k v r

def setSub (H : RH) (o i v : RV) : Option RH := match o with
  | .ref j => match H[j]? with
    | some (.dict es) => if keyOk i && es.all (fun p => keyOk p.1) && decide (es.length < 4000) then some (H.set j (.dict (putD i v es))) else none
    | _ => none
  | _ => none

section
variable (G : RProg) (U : UTy)
mutual
def wpS : RT → Loc → RH → PF → Prop
  | .expr e, loc, H, Q => wpE G U e loc H fun _ H₁ => Q .next loc H₁
  | .ret (some e), loc, H, Q => wpE G U e loc H fun v H₁ => Q (.ret v) loc H₁
  | .ret none, loc, H, Q => Q (.ret .none) loc H
  | .asg t e, loc, H, Q => wpE G U e loc H fun v H₁ => match asgT t v loc with
    | some loc₁ => Q .next loc₁ H₁
    | none => False
  | .asgAttr o x e, loc, H, Q => wpE G U e loc H fun v H₁ => wpE G U o loc H₁ fun ov H₂ => match setField G H₂ ov x v with
    | some H₃ => Q .next loc H₃
    | none => False
  | .asgSub o i e, loc, H, Q => wpE G U e loc H fun v H₁ => wpE G U o loc H₁ fun ov H₂ => wpE G U i loc H₂ fun iv H₃ => match setSub H₃ ov iv v with
    | some H₄ => Q .next loc H₄
    | none => False
  | .ite t a b, loc, H, Q => wpT G U t (fun l H' Q' => wpE G U t l H' Q') loc H fun c H₁ => if c then wpSs a loc H₁ Q else wpSs b loc H₁ Q
  | .for_ t it body, loc, H, Q => False
  | .while_ t body, loc, H, Q => False
  | .try_ body, loc, H, Q => False
  | .delSub _ _, _, _, _ => False
  | .raise_, _, _, _ => False
  | .brk, loc, H, Q => Q .brk loc H
  | .cont, loc, H, Q => Q .cont loc H
  | .pass, loc, H, Q => Q .next loc H
def wpSs : List RT → Loc → RH → PF → Prop
  | [], loc, H, Q => Q .next loc H
  | s :: r, loc, H, Q => wpS s loc H fun fl loc₁ H₁ => match fl with
    | .next => wpSs r loc₁ H₁ Q
    | fl => Q fl loc₁ H₁
end
end

def bindR (ps : List String) (ds : List RV) (args : List RV) : Option Loc :=
  if args.length ≤ ps.length ∧ ps.length ≤ args.length + ds.length then some (ps.zip (args ++ ds.drop (ds.length - (ps.length - args.length)))) else none

def retV : RFl → RV
  | .ret v => v
  | _ => .none

def callU (G : RProg) : Nat → UTy
  | 0, _, _, _, _ => False
  | n + 1, d, args, H, Q => match bindR d.params d.dflts args with
    | some loc => wpSs G (callU G n) d.body loc H fun fl _ H₁ => Q (retV fl) H₁
    | none => False
end Mine

namespace Mine
open PySem PySem.W PySem.Calls PyProof.Rows

abbrev Ns := List (Str × NameKind)

def mtC : Const → RV → Bool
  | .none, .none => true
  | .bool b, .bool c => b == c
  | .int i, .int j => decide (i = j)
  | .str s, .str u => s == u
  | _, _ => false
def isL (k : Option NameKind) : Bool := k == some .local || k == some .cell || k == some .free
def isW (k : Option NameKind) : Bool := k == some .local || k == some .cell
def dbg (x : Str) : Bool := x == ("__debug__" : Str) || x == ("__classdict__" : Str)

/-- a block's own names: each free one is a cell of the frame around; no name stands twice -/
def scOk (ns : Ns) (sc : Scope) : Bool :=
  sc.kind == .function && !sc.isGenerator && !sc.isCoroutine && decide ((sc.names.map (·.1)).Nodup) &&
  sc.names.all (fun p => p.2 != .free || ns.lookup p.1 == some .cell || ns.lookup p.1 == some .free) && sc.names.all (fun p => p.2 != .globalExplicit)

/-- no call of a name without arguments ahead of the dot -/
def noCall0 : Expr → Bool
  | .Call (.Name _ _) [] [] _ => false
  | _ => true

mutual
def mtE (ns : Ns) (e : Expr) (r : RE) : Bool := match r, e with
  | .const v, .Constant c _ _ => mtC c v
  | .loc x, .Name id _ => id == Str.ofString x && isL (ns.lookup id) && !dbg id
  | .glb x, .Name id _ => id == Str.ofString x && ns.lookup id == some .globalImplicit && !dbg id
  | .boolop b rs, .BoolOp op es _ => ((op == .And) == b) && mtEs ns es rs
  | .bin o' a b, .BinOp l o r _ => o == o' && mtE ns l a && mtE ns r b
  | .not a, .UnaryOp .Not x _ => mtE ns x a
  | .neg a, .UnaryOp .USub x _ => mtE ns x a
  | .cond t' b' o', .IfExp t b o _ => mtE ns t t' && mtE ns b b' && mtE ns o o'
  | .list rs, .List es _ => mtEs ns es rs
  | .tup rs, .Tuple es _ _ => mtEs ns es rs
  | .dict0, .Dict [] [] _ => true
  | .comp1 elt' x' it' ifs', .ListComp elt [⟨.Name x _, it, ifs, k⟩] sc _ => k == 0 && x == Str.ofString x' && scOk ns sc && isW (sc.names.lookup x) && mtE ns it it' && mtE sc.names elt elt' && mtEs sc.names ifs ifs'
  | .cmp a' ops' es', .Compare a ops es _ => ops == ops' && decide (ops.length = es.length) && !ops.isEmpty && mtE ns a a' && mtEs ns es es'
  | .meth o' n' args', .Call (.Attribute o n ap) args [] p => noCall0 o && n == Str.ofString n' && mtE ns o o' && mtEs ns args args' && ap.endLine == p.line && decide (args.length < 30)
  | .call f' args', .Call (.Name id np) args [] _ => mtE ns (.Name id np) f' && mtEs ns args args'
  | .attr o' n', .Attribute o n _ => noCall0 o && n == Str.ofString n' && mtE ns o o'
  | .sub o' i', .Subscript o i _ => mtE ns o o' && mtE ns i i'
  | _, _ => false
termination_by structural r
def mtEs (ns : Ns) : List Expr → List RE → Bool
  | [], [] => true
  | e :: es, r :: rs => mtE ns e r && mtEs ns es rs
  | _, _ => false
termination_by structural _ rs => rs
end

def mtNames (ns : Ns) : List Expr → List String → Bool
  | [], [] => true
  | .Name id _ :: es, x :: xs => id == Str.ofString x && isW (ns.lookup id) && mtNames ns es xs
  | _, _ => false

def mtTg (ns : Ns) : Expr → RTg → Bool
  | .Name id _, .name x => id == Str.ofString x && isW (ns.lookup id)
  | .Tuple es _ _, .names xs => mtNames ns es xs
  | _, _ => false

def plainVal : Expr → Bool
  | .ListComp .. => false
  | .SetComp .. => false
  | .DictComp .. => false
  | _ => true

def notTup : Expr → Bool
  | .Tuple .. => false
  | _ => true

mutual
def mtS (ns : Ns) (st : Stmt) (r : RT) : Bool := match r, st with
  | .expr r, .Expr e _ => plainVal e && mtE ns e r
  | .ret none, .Return none _ => true
  | .ret (some r), .Return (some e) _ => mtE ns e r
  | .asg (.name x) r, .Assign [.Name id np] e p => mtE ns e r && id == Str.ofString x && isW (ns.lookup id)
  | .asg (.names xs) r, .Assign [.Tuple es k tp] e p => plainVal e && notTup e && mtE ns e r && mtNames ns es xs
  | .asgAttr o' n' e', .Assign [.Attribute o n _] e _ => plainVal e && mtE ns e e' && mtE ns o o' && n == Str.ofString n'
  | .asgSub o' i' e', .Assign [.Subscript o i _] e _ => plainVal e && mtE ns e e' && mtE ns o o' && mtE ns i i'
  | .ite t' a' b', .If t a b _ => mtE ns t t' && mtSs ns a a' && mtSs ns b b'
  | .for_ t' it' body', .For t it body [] _ => mtTg ns t t' && mtE ns it it' && mtSs ns body body'
  | .while_ t' body', .While t body [] _ => mtE ns t t' && mtSs ns body body'
  | .try_ body', .Try body _ [] [] _ => mtSs ns body body'
  | .raise_, .Raise _ _ _ => true
  | .brk, .Break _ => true
  | .cont, .Continue _ => true
  | .pass, .Pass _ => true
  | _, _ => false
termination_by structural r
def mtSs (ns : Ns) : List Stmt → List RT → Bool
  | [], [] => true
  | s :: ss, r :: rs => mtS ns s r && mtSs ns ss rs
  | _, _ => false
termination_by structural _ rs => rs
end

/-- a top value as ours -/
def mtV (K : Frag) : Nat → Value → RV → Bool
  | _, .none, .none => true
  | _, .bool b, .bool c => b == c
  | _, .int i _, .int j => decide (i = j)
  | _, .str s _, .str u => s == u
  | n + 1, .ref a, .tup us => match K.lookup a with
    | some ⟨.type t, none, .seq vs _, sl⟩ => t == "tuple" && sl.isEmpty && decide (vs.toList.length = us.length) && (vs.toList.zip us).all fun p => mtV K n p.1 p.2
    | _ => false
  | _, .ref a, .fn x => nsIn K mainGlobals (Str.ofString x) == some (some (.ref a))
  | _, _, _ => false

/-- a def of the text's against ours -/
def mtFn (K : Frag) (f : Addr) (qual : Str) (d : RFn) : Bool := match K.lookup f with
  | some ⟨.type _, _, .func fd, _⟩ =>
    fd.globals == mainGlobals && fd.closure.isEmpty && fd.builtins == builtinsNs && fd.qualname == qual && codeIn K fd.code fd.qualname &&
    !fd.scope.isGenerator && !fd.scope.isCoroutine && fd.scope.kind == .function && decide ((fd.scope.names.map (·.1)).Nodup) && fd.scope.names.all (fun q => q.2 != .free) &&
    fd.params.posonlyargs.isEmpty && fd.params.vararg.isNone && fd.params.kwonlyargs.isEmpty && fd.params.kwarg.isNone &&
    fd.params.args.map (·.arg) == d.params.map Str.ofString && fd.params.args.all (fun a => isW (fd.scope.names.lookup a.arg)) && decide ((d.params).Nodup) && decide (d.dflts.length ≤ d.params.length) &&
    (match fd.defaults with
      | .none => d.dflts.isEmpty
      | .ref t => (match K.lookup t with
        | some ⟨.type c, none, .seq vs _, _⟩ => c == "tuple" && decide (vs.toList.length = d.dflts.length) && (vs.toList.zip d.dflts).all fun p => mtV K 4 p.1 p.2
        | _ => false)
      | _ => false) &&
    (match fd.kwdefaults with | .none => true | _ => false) &&
    (match fd.body with | .stmts b => mtSs fd.scope.names b d.body | .expr _ => false)
  | _ => false

def mtProg (K : Frag) (G : RProg) : Bool :=
  (G.funs.all fun p => match nsIn K mainGlobals (Str.ofString p.1) with
    | some (some (.ref f)) => mtFn K f (Str.ofString p.1) p.2
    | _ => false) &&
  (G.clss.all fun c => match nsIn K mainGlobals (Str.ofString c.1) with
    | some (some (.ref C)) => makesIn K C && hasDictIn K C && keepIn K (.ref C) && plainGet K C (Str.ofString c.1) && findIn K (.ref C) "__setattr__" == some (some (.builtin "object.__setattr__")) && plainOver K C &&
      (c.2.attrs.all fun x => match findIn K (.ref C) (Str.ofString x) with
        | some attr => noGet K attr && takerIn K C (Str.ofString x) == some none
        | none => false) && c.2.ms.all fun p => match findIn K (.ref C) (Str.ofString p.1) with
      | some (some (.ref f)) => isFn K (.ref f) && mtFn K f (Str.ofString c.1 ++ "." ++ Str.ofString p.1) p.2
      | _ => false
    | _ => false) &&
  (biNames.all fun x => nsIn K mainGlobals (Str.ofString x) == some none) && (tyNames.all fun x => nsIn K mainGlobals (Str.ofString x) == some none) &&
  (G.vals.all fun p => match nsIn K mainGlobals (Str.ofString p.1) with
    | some (some v) => mtV K 4 v p.2
    | _ => false)
end Mine

namespace Mine
open PySem PySem.W PySem.Calls PyProof.Rows

section
variable {ns : Ns}
theorem mtE_const {c : Const} {k : Nat} {p : Pos} {v : RV} : mtE ns (.Constant c k p) (.const v) = mtC c v := rfl
theorem mtE_loc {id : Str} {p : Pos} {x : String} : mtE ns (.Name id p) (.loc x) = (id == Str.ofString x && isL (ns.lookup id) && !dbg id) := rfl
theorem mtE_glb {id : Str} {p : Pos} {x : String} : mtE ns (.Name id p) (.glb x) = (id == Str.ofString x && ns.lookup id == some .globalImplicit && !dbg id) := rfl
theorem mtE_boolop {op : BoolOp} {es : List Expr} {p : Pos} {b : Bool} {rs : List RE} : mtE ns (.BoolOp op es p) (.boolop b rs) = (((op == .And) == b) && mtEs ns es rs) := rfl
theorem mtE_bin {l r : Expr} {o o' : Operator} {p : Pos} {a b : RE} : mtE ns (.BinOp l o r p) (.bin o' a b) = (o == o' && mtE ns l a && mtE ns r b) := rfl
theorem mtE_not {x : Expr} {p : Pos} {a : RE} : mtE ns (.UnaryOp .Not x p) (.not a) = mtE ns x a := rfl
theorem mtE_neg {x : Expr} {p : Pos} {a : RE} : mtE ns (.UnaryOp .USub x p) (.neg a) = mtE ns x a := rfl
theorem mtE_cond {t b o : Expr} {p : Pos} {t' b' o' : RE} : mtE ns (.IfExp t b o p) (.cond t' b' o') = (mtE ns t t' && mtE ns b b' && mtE ns o o') := rfl
theorem mtE_list {es : List Expr} {p : Pos} {rs : List RE} : mtE ns (.List es p) (.list rs) = mtEs ns es rs := rfl
theorem mtE_tup {es : List Expr} {k : Nat} {p : Pos} {rs : List RE} : mtE ns (.Tuple es k p) (.tup rs) = mtEs ns es rs := rfl
theorem mtE_comp1 {elt it : Expr} {x : Str} {xp p : Pos} {ifs : List Expr} {k : Int} {sc : Scope} {elt' it' : RE} {x' : String} {ifs' : List RE} : mtE ns (.ListComp elt [⟨.Name x xp, it, ifs, k⟩] sc p) (.comp1 elt' x' it' ifs') =
  (k == 0 && x == Str.ofString x' && scOk ns sc && isW (sc.names.lookup x) && mtE ns it it' && mtE sc.names elt elt' && mtEs sc.names ifs ifs') := rfl
theorem mtE_cmp {a : Expr} {ops : List CmpOp} {es : List Expr} {p : Pos} {a' : RE} {ops' : List CmpOp} {rs : List RE} : mtE ns (.Compare a ops es p) (.cmp a' ops' rs) = (ops == ops' && decide (ops.length = es.length) && !ops.isEmpty && mtE ns a a' && mtEs ns es rs) := rfl
theorem mtE_meth {o : Expr} {x : Str} {ap p : Pos} {es : List Expr} {o' : RE} {x' : String} {rs : List RE} : mtE ns (.Call (.Attribute o x ap) es [] p) (.meth o' x' rs) = (noCall0 o && x == Str.ofString x' && mtE ns o o' && mtEs ns es rs && ap.endLine == p.line && decide (es.length < 30)) := rfl
theorem mtE_call {id : Str} {np p : Pos} {es : List Expr} {f' : RE} {rs : List RE} : mtE ns (.Call (.Name id np) es [] p) (.call f' rs) = (mtE ns (.Name id np) f' && mtEs ns es rs) := rfl
theorem mtE_attr {o : Expr} {x : Str} {p : Pos} {o' : RE} {x' : String} : mtE ns (.Attribute o x p) (.attr o' x') = (noCall0 o && x == Str.ofString x' && mtE ns o o') := rfl
theorem mtE_sub {o i : Expr} {p : Pos} {o' i' : RE} : mtE ns (.Subscript o i p) (.sub o' i') = (mtE ns o o' && mtE ns i i') := rfl
theorem mtEs_nil : mtEs ns [] [] = true := rfl
theorem mtEs_cons {e : Expr} {es : List Expr} {r : RE} {rs : List RE} : mtEs ns (e :: es) (r :: rs) = (mtE ns e r && mtEs ns es rs) := rfl
theorem mtEs_nc {r : RE} {rs : List RE} : mtEs ns [] (r :: rs) = false := rfl
theorem mtEs_cn {e : Expr} {es : List Expr} : mtEs ns (e :: es) [] = false := rfl
end
/-- the pairs that meet -/
inductive Mt (ns : Ns) : Expr → RE → Prop where
  | const {c : Const} {k : Nat} {p : Pos} {v : RV} : mtE ns (.Constant c k p) (.const v) = true → Mt ns (.Constant c k p) (.const v)
  | loc {i : Str} {p : Pos} {x : String} : mtE ns (.Name i p) (.loc x) = true → Mt ns (.Name i p) (.loc x)
  | glb {i : Str} {p : Pos} {x : String} : mtE ns (.Name i p) (.glb x) = true → Mt ns (.Name i p) (.glb x)
  | boolop {op : BoolOp} {es : List Expr} {p : Pos} {b : Bool} {rs : List RE} : mtE ns (.BoolOp op es p) (.boolop b rs) = true → Mt ns (.BoolOp op es p) (.boolop b rs)
  | bin {l r : Expr} {o o' : Operator} {p : Pos} {a b : RE} : mtE ns (.BinOp l o r p) (.bin o' a b) = true → Mt ns (.BinOp l o r p) (.bin o' a b)
  | not {x : Expr} {p : Pos} {a : RE} : mtE ns (.UnaryOp .Not x p) (.not a) = true → Mt ns (.UnaryOp .Not x p) (.not a)
  | neg {x : Expr} {p : Pos} {a : RE} : mtE ns (.UnaryOp .USub x p) (.neg a) = true → Mt ns (.UnaryOp .USub x p) (.neg a)
  | cond {t b o : Expr} {p : Pos} {t' b' o' : RE} : mtE ns (.IfExp t b o p) (.cond t' b' o') = true → Mt ns (.IfExp t b o p) (.cond t' b' o')
  | list {es : List Expr} {p : Pos} {rs : List RE} : mtE ns (.List es p) (.list rs) = true → Mt ns (.List es p) (.list rs)
  | tup {es : List Expr} {k : Nat} {p : Pos} {rs : List RE} : mtE ns (.Tuple es k p) (.tup rs) = true → Mt ns (.Tuple es k p) (.tup rs)
  | dict0 {p : Pos} : mtE ns (.Dict [] [] p) .dict0 = true → Mt ns (.Dict [] [] p) .dict0
  | comp1 {elt it : Expr} {x : Str} {xp p : Pos} {ifs : List Expr} {k : Int} {sc : Scope} {elt' it' : RE} {x' : String} {ifs' : List RE} : mtE ns (.ListComp elt [⟨.Name x xp, it, ifs, k⟩] sc p) (.comp1 elt' x' it' ifs') = true → Mt ns (.ListComp elt [⟨.Name x xp, it, ifs, k⟩] sc p) (.comp1 elt' x' it' ifs')
  | cmp {a : Expr} {ops : List CmpOp} {es : List Expr} {p : Pos} {a' : RE} {ops' : List CmpOp} {rs : List RE} : mtE ns (.Compare a ops es p) (.cmp a' ops' rs) = true → Mt ns (.Compare a ops es p) (.cmp a' ops' rs)
  | call {id : Str} {np p : Pos} {es : List Expr} {f' : RE} {rs : List RE} : mtE ns (.Call (.Name id np) es [] p) (.call f' rs) = true → Mt ns (.Call (.Name id np) es [] p) (.call f' rs)
  | meth {o : Expr} {x : Str} {ap p : Pos} {es : List Expr} {o' : RE} {x' : String} {rs : List RE} : mtE ns (.Call (.Attribute o x ap) es [] p) (.meth o' x' rs) = true → Mt ns (.Call (.Attribute o x ap) es [] p) (.meth o' x' rs)
  | attr {o : Expr} {x : Str} {p : Pos} {o' : RE} {x' : String} : mtE ns (.Attribute o x p) (.attr o' x') = true → Mt ns (.Attribute o x p) (.attr o' x')
  | sub {o i : Expr} {p : Pos} {o' i' : RE} : mtE ns (.Subscript o i p) (.sub o' i') = true → Mt ns (.Subscript o i p) (.sub o' i')
theorem mt_of {ns : Ns} {e : Expr} {r : RE} (h : mtE ns e r = true) : Mt ns e r := by
  cases r with
  | const => cases e <;> first | exact absurd h Bool.false_ne_true | exact .const h
  | loc => cases e <;> first | exact absurd h Bool.false_ne_true | exact .loc h
  | glb => cases e <;> first | exact absurd h Bool.false_ne_true | exact .glb h
  | boolop => cases e <;> first | exact absurd h Bool.false_ne_true | exact .boolop h
  | bin => cases e <;> first | exact absurd h Bool.false_ne_true | exact .bin h
  | cond => cases e <;> first | exact absurd h Bool.false_ne_true | exact .cond h
  | list => cases e <;> first | exact absurd h Bool.false_ne_true | exact .list h
  | tup => cases e <;> first | exact absurd h Bool.false_ne_true | exact .tup h
  | cmp => cases e <;> first | exact absurd h Bool.false_ne_true | exact .cmp h
  | attr => cases e <;> first | exact absurd h Bool.false_ne_true | exact .attr h
  | sub => cases e <;> first | exact absurd h Bool.false_ne_true | exact .sub h
  | not => cases e <;> first | exact absurd h Bool.false_ne_true | (rename_i op _ _; cases op <;> first | exact absurd h Bool.false_ne_true | exact .not h)
  | neg => cases e <;> first | exact absurd h Bool.false_ne_true | (rename_i op _ _; cases op <;> first | exact absurd h Bool.false_ne_true | exact .neg h)
  | dict0 => cases e <;> first | exact absurd h Bool.false_ne_true | (rename_i ks vs _; cases ks <;> cases vs <;> first | exact absurd h Bool.false_ne_true | exact .dict0 h)
  | call => cases e <;> first | exact absurd h Bool.false_ne_true | (rename_i f xs ks p; cases ks <;> cases f <;> first | exact absurd h Bool.false_ne_true | exact .call h)
  | meth => cases e <;> first | exact absurd h Bool.false_ne_true | (rename_i f xs ks p; cases ks <;> cases f <;> first | exact absurd h Bool.false_ne_true | exact .meth h)
  | comp1 => cases e <;> first | exact absurd h Bool.false_ne_true | (rename_i elt gs sc p; (rcases gs with _ | ⟨⟨t, it, ifs, k⟩, _ | ⟨g, gs⟩⟩) <;> first | exact absurd h Bool.false_ne_true | (cases t <;> first | exact absurd h Bool.false_ne_true | exact .comp1 h))
  | comp2 => exact absurd h Bool.false_ne_true
  | sortk => exact absurd h Bool.false_ne_true
  | slice => exact absurd h Bool.false_ne_true

section
variable {ns : Ns}
theorem mtS_expr {e : Expr} {p : Pos} {r : RE} : mtS ns (.Expr e p) (.expr r) = (plainVal e && mtE ns e r) := rfl
theorem mtS_ret1 {e : Expr} {p : Pos} {r : RE} : mtS ns (.Return (some e) p) (.ret (some r)) = mtE ns e r := rfl
theorem mtS_asg1 {id : Str} {np p : Pos} {e : Expr} {x : String} {r : RE} : mtS ns (.Assign [.Name id np] e p) (.asg (.name x) r) = (mtE ns e r && id == Str.ofString x && isW (ns.lookup id)) := rfl
theorem mtS_asgs {es : List Expr} {k : Nat} {tp p : Pos} {e : Expr} {xs : List String} {r : RE} : mtS ns (.Assign [.Tuple es k tp] e p) (.asg (.names xs) r) = (plainVal e && notTup e && mtE ns e r && mtNames ns es xs) := rfl
theorem mtS_asgAttr {o : Expr} {x : Str} {ap p : Pos} {e : Expr} {o' : RE} {x' : String} {e' : RE} : mtS ns (.Assign [.Attribute o x ap] e p) (.asgAttr o' x' e') = (plainVal e && mtE ns e e' && mtE ns o o' && x == Str.ofString x') := rfl
theorem mtS_asgSub {o i : Expr} {ap p : Pos} {e : Expr} {o' i' e' : RE} : mtS ns (.Assign [.Subscript o i ap] e p) (.asgSub o' i' e') = (plainVal e && mtE ns e e' && mtE ns o o' && mtE ns i i') := rfl
theorem mtS_ite {t : Expr} {a b : List Stmt} {p : Pos} {t' : RE} {a' b' : List RT} : mtS ns (.If t a b p) (.ite t' a' b') = (mtE ns t t' && mtSs ns a a' && mtSs ns b b') := rfl
theorem mtS_for {t it : Expr} {b : List Stmt} {p : Pos} {t' : RTg} {it' : RE} {b' : List RT} : mtS ns (.For t it b [] p) (.for_ t' it' b') = (mtTg ns t t' && mtE ns it it' && mtSs ns b b') := rfl
theorem mtS_while {t : Expr} {b : List Stmt} {p : Pos} {t' : RE} {b' : List RT} : mtS ns (.While t b [] p) (.while_ t' b') = (mtE ns t t' && mtSs ns b b') := rfl
theorem mtS_try {b : List Stmt} {hs : List ExceptHandler} {p : Pos} {b' : List RT} : mtS ns (.Try b hs [] [] p) (.try_ b') = mtSs ns b b' := rfl
theorem mtSs_cons {s : Stmt} {ss : List Stmt} {r : RT} {rs : List RT} : mtSs ns (s :: ss) (r :: rs) = (mtS ns s r && mtSs ns ss rs) := rfl
end
inductive MtS (ns : Ns) : Stmt → RT → Prop where
  | expr {e : Expr} {p : Pos} {r : RE} : mtS ns (.Expr e p) (.expr r) = true → MtS ns (.Expr e p) (.expr r)
  | ret0 {p : Pos} : mtS ns (.Return none p) (.ret none) = true → MtS ns (.Return none p) (.ret none)
  | ret {e : Expr} {p : Pos} {r : RE} : mtS ns (.Return (some e) p) (.ret (some r)) = true → MtS ns (.Return (some e) p) (.ret (some r))
  | asg {id : Str} {np p : Pos} {e : Expr} {x : String} {r : RE} : mtS ns (.Assign [.Name id np] e p) (.asg (.name x) r) = true → MtS ns (.Assign [.Name id np] e p) (.asg (.name x) r)
  | asgs {es : List Expr} {k : Nat} {tp p : Pos} {e : Expr} {xs : List String} {r : RE} : mtS ns (.Assign [.Tuple es k tp] e p) (.asg (.names xs) r) = true → MtS ns (.Assign [.Tuple es k tp] e p) (.asg (.names xs) r)
  | asgAttr {o : Expr} {x : Str} {ap p : Pos} {e : Expr} {o' : RE} {x' : String} {e' : RE} : mtS ns (.Assign [.Attribute o x ap] e p) (.asgAttr o' x' e') = true → MtS ns (.Assign [.Attribute o x ap] e p) (.asgAttr o' x' e')
  | asgSub {o i : Expr} {ap p : Pos} {e : Expr} {o' i' e' : RE} : mtS ns (.Assign [.Subscript o i ap] e p) (.asgSub o' i' e') = true → MtS ns (.Assign [.Subscript o i ap] e p) (.asgSub o' i' e')
  | ite {t : Expr} {a b : List Stmt} {p : Pos} {t' : RE} {a' b' : List RT} : mtS ns (.If t a b p) (.ite t' a' b') = true → MtS ns (.If t a b p) (.ite t' a' b')
  | for_ {t it : Expr} {b : List Stmt} {p : Pos} {t' : RTg} {it' : RE} {b' : List RT} : mtS ns (.For t it b [] p) (.for_ t' it' b') = true → MtS ns (.For t it b [] p) (.for_ t' it' b')
  | while_ {t : Expr} {b : List Stmt} {p : Pos} {t' : RE} {b' : List RT} : mtS ns (.While t b [] p) (.while_ t' b') = true → MtS ns (.While t b [] p) (.while_ t' b')
  | try_ {b : List Stmt} {hs : List ExceptHandler} {p : Pos} {b' : List RT} : mtS ns (.Try b hs [] [] p) (.try_ b') = true → MtS ns (.Try b hs [] [] p) (.try_ b')
  | raise_ {e c : Option Expr} {p : Pos} : mtS ns (.Raise e c p) .raise_ = true → MtS ns (.Raise e c p) .raise_
  | brk {p : Pos} : mtS ns (.Break p) .brk = true → MtS ns (.Break p) .brk
  | cont {p : Pos} : mtS ns (.Continue p) .cont = true → MtS ns (.Continue p) .cont
  | pass {p : Pos} : mtS ns (.Pass p) .pass = true → MtS ns (.Pass p) .pass
theorem mtS_of {ns : Ns} {st : Stmt} {r : RT} (h : mtS ns st r = true) : MtS ns st r := by
  cases r with
  | expr => cases st <;> first | exact absurd h Bool.false_ne_true | exact .expr h
  | ite => cases st <;> first | exact absurd h Bool.false_ne_true | exact .ite h
  | raise_ => cases st <;> first | exact absurd h Bool.false_ne_true | exact .raise_ h
  | brk => cases st <;> first | exact absurd h Bool.false_ne_true | exact .brk h
  | cont => cases st <;> first | exact absurd h Bool.false_ne_true | exact .cont h
  | pass => cases st <;> first | exact absurd h Bool.false_ne_true | exact .pass h
  | ret o => cases o <;> cases st <;> first | exact absurd h Bool.false_ne_true | (rename_i v _; cases v <;> first | exact absurd h Bool.false_ne_true | exact .ret h | exact .ret0 h)
  | asg t e => cases t <;> cases st <;> first | exact absurd h Bool.false_ne_true | (rename_i ts v _; (rcases ts with _ | ⟨a, _ | ⟨b, ts⟩⟩) <;> first | exact absurd h Bool.false_ne_true | (cases a <;> first | exact absurd h Bool.false_ne_true | exact .asg h | exact .asgs h))
  | asgAttr => cases st <;> first | exact absurd h Bool.false_ne_true | (rename_i ts v _; (rcases ts with _ | ⟨a, _ | ⟨b, ts⟩⟩) <;> first | exact absurd h Bool.false_ne_true | (cases a <;> first | exact absurd h Bool.false_ne_true | exact .asgAttr h))
  | asgSub => cases st <;> first | exact absurd h Bool.false_ne_true | (rename_i ts v _; (rcases ts with _ | ⟨a, _ | ⟨b, ts⟩⟩) <;> first | exact absurd h Bool.false_ne_true | (cases a <;> first | exact absurd h Bool.false_ne_true | exact .asgSub h))
  | for_ => cases st <;> first | exact absurd h Bool.false_ne_true | (rename_i o _; cases o <;> first | exact absurd h Bool.false_ne_true | exact .for_ h)
  | while_ => cases st <;> first | exact absurd h Bool.false_ne_true | (rename_i o _; cases o <;> first | exact absurd h Bool.false_ne_true | exact .while_ h)
  | try_ => cases st <;> first | exact absurd h Bool.false_ne_true | (rename_i o f _; cases o <;> cases f <;> first | exact absurd h Bool.false_ne_true | exact .try_ h)
  | delSub => cases st <;> exact absurd h Bool.false_ne_true
end Mine

namespace Mine
open PySem PySem.W PySem.Calls PyProof.Rows

abbrev Led := List (List (Addr × Obj))
abbrev Frz := List (Addr × Obj)
def adr (led : Led) (i : Nat) : Option Addr := match led[i]? with
  | some (p :: _) => some p.1
  | _ => none

abbrev tupO (vs : List Value) (n : Nat) : Obj := { cls := .type "tuple", data := .seq vs.toArray n }
abbrev lstO (vs : List Value) (n : Nat) : Obj := { cls := .type "list", data := .seq vs.toArray n }
abbrev dctO (es : List DictEntry) (n : Nat) : Obj := { cls := .type "dict", data := .dict es.toArray n }

def strOf : Value → Str
  | .str x _ => x
  | _ => Str.empty
/-- what stands still: the ledger's frozen part or the written top -/
def Imm (K : Frag) (fr : Frz) (a : Addr) (o : Obj) : Prop := (a, o) ∈ fr ∨ K.lookup a = some o

mutual
inductive VRel (K : Frag) (led : Led) (fr : Frz) : RV → Value → Prop where
  | none : VRel K led fr .none .none
  | bool (b : Bool) : VRel K led fr (.bool b) (.bool b)
  | int (i : Int) (t : Tok) : VRel K led fr (.int i) (.int i t)
  | str (x : Str) (t : Tok) : VRel K led fr (.str x) (.str x t)
  | tup {a : Addr} {us : List RV} {vs : List Value} {n : Nat} : Imm K fr a (tupO vs n) → VsRel K led fr us vs → VRel K led fr (.tup us) (.ref a)
  | rng {a : Addr} {x y c : Int} {t u v : Tok} : Imm K fr a { cls := .type "range", data := .fields #[.int x t, .int y u, .int c v] } → VRel K led fr (.rng x y c) (.ref a)
  | ref {i : Nat} {a : Addr} : adr led i = some a → VRel K led fr (.ref i) (.ref a)
  | fn {x : String} {a : Addr} : nsIn K mainGlobals (Str.ofString x) = some (some (.ref a)) → VRel K led fr (.fn x) (.ref a)
  | cls {x : String} {a : Addr} : nsIn K mainGlobals (Str.ofString x) = some (some (.ref a)) → VRel K led fr (.cls x) (.ref a)
  | bi (x : String) : VRel K led fr (.bi x) (.builtin x)
  | ty (x : String) : VRel K led fr (.ty x) (.type x)
  | arg {a : Addr} {us : List RV} {vs : List Value} {o : Obj} {n : Nat} : Imm K fr a o → o.cls = .type "list" → o.data = .seq vs.toArray n → VsRel K led fr us vs → VRel K led fr (.arg us) (.ref a)
inductive VsRel (K : Frag) (led : Led) (fr : Frz) : List RV → List Value → Prop where
  | nil : VsRel K led fr [] []
  | cons {u : RV} {v : Value} {us : List RV} {vs : List Value} : VRel K led fr u v → VsRel K led fr us vs → VsRel K led fr (u :: us) (v :: vs)
end

/-- one entry of an object's own dict -/
inductive FsRel (P : Params) (K : Frag) (led : Led) (fr : Frz) : List (String × RV) → List DictEntry → Prop where
  | nil : FsRel P K led fr [] []
  | cons {x : String} {u : RV} {t : Tok} {v : Value} {fs : List (String × RV)} {es : List DictEntry} : VRel K led fr u v → FsRel P K led fr fs es → FsRel P K led fr ((x, u) :: fs) (⟨PyData.keyHash P (Str.ofString x), .str (Str.ofString x) t, v⟩ :: es)

/-- entries of a dict keyed by texts -/
inductive DsRel (P : Params) (K : Frag) (led : Led) (fr : Frz) : List (RV × RV) → List DictEntry → Prop where
  | nil : DsRel P K led fr [] []
  | cons {x : Str} {u : RV} {t : Tok} {v : Value} {fs : List (RV × RV)} {es : List DictEntry} : VRel K led fr u v → DsRel P K led fr fs es → DsRel P K led fr ((.str x, u) :: fs) (⟨PyData.keyHash P x, .str x t, v⟩ :: es)

inductive ORel (P : Params) (K : Frag) (led : Led) (fr : Frz) : RO → List (Addr × Obj) → Prop where
  | list {us : List RV} {vs : List Value} {a : Addr} {n : Nat} : VsRel K led fr us vs → ORel P K led fr (.list us) [(a, lstO vs n)]
  | dict {es : List (RV × RV)} {ds : List DictEntry} {a : Addr} {n : Nat} : DsRel P K led fr es ds → (ds.map fun e => strOf e.key).Nodup → ORel P K led fr (.dict es) [(a, dctO ds n)]
  | inst {c : String} {C x d : Addr} {fs : List (String × RV)} {ds : List DictEntry} {n : Nat} : nsIn K mainGlobals (Str.ofString c) = some (some (.ref C)) → FsRel P K led fr fs ds → ORel P K led fr (.inst c fs) [(x, instObj C d), (d, dctO ds n)]

def HRel (P : Params) (K : Frag) (led : Led) (fr : Frz) (H : RH) : Prop := led.length = H.length ∧ ∀ (i : Nat) (o : RO), H[i]? = some o → ∃ b, led[i]? = some b ∧ ORel P K led fr o b

def Ext (led led' : Led) : Prop := ∀ i a, adr led i = some a → adr led' i = some a
def Sub (fr fr' : Frz) : Prop := ∀ p ∈ fr, p ∈ fr'
theorem Ext.refl (led : Led) : Ext led led := fun _ _ e => e
theorem Ext.trans {a b c : Led} (x : Ext a b) (y : Ext b c) : Ext a c := fun i p e => y i p (x i p e)
theorem Sub.refl (fr : Frz) : Sub fr fr := fun _ e => e
theorem Sub.trans {a b c : Frz} (x : Sub a b) (y : Sub b c) : Sub a c := fun p e => y p (x p e)
theorem Imm.mono {K : Frag} {fr fr' : Frz} {a : Addr} {o : Obj} (x : Imm K fr a o) (h : Sub fr fr') : Imm K fr' a o := x.imp (h _) id

mutual
theorem VRel.mono {K : Frag} {led led' : Led} {fr fr' : Frz} (e : Ext led led') (h : Sub fr fr') : ∀ {u : RV} {v : Value}, VRel K led fr u v → VRel K led' fr' u v
  | _, _, .none => .none
  | _, _, .bool b => .bool b
  | _, _, .int i t => .int i t
  | _, _, .str x t => .str x t
  | _, _, .tup i r => .tup (i.mono h) (VsRel.mono e h r)
  | _, _, .rng i => .rng (i.mono h)
  | _, _, .ref i => .ref (e _ _ i)
  | _, _, .fn i => .fn i
  | _, _, .cls i => .cls i
  | _, _, .bi x => .bi x
  | _, _, .ty x => .ty x
  | _, _, .arg i c d r => .arg (i.mono h) c d (VsRel.mono e h r)
theorem VsRel.mono {K : Frag} {led led' : Led} {fr fr' : Frz} (e : Ext led led') (h : Sub fr fr') : ∀ {u : List RV} {v : List Value}, VsRel K led fr u v → VsRel K led' fr' u v
  | _, _, .nil => .nil
  | _, _, .cons x r => .cons (VRel.mono e h x) (VsRel.mono e h r)
end
theorem FsRel.mono {P : Params} {K : Frag} {led led' : Led} {fr fr' : Frz} (e : Ext led led') (h : Sub fr fr') {u : List (String × RV)} {v : List DictEntry} (r : FsRel P K led fr u v) : FsRel P K led' fr' u v := by
  induction r with
  | nil => exact .nil
  | cons x _ ih => exact .cons (x.mono e h) ih
theorem DsRel.mono {P : Params} {K : Frag} {led led' : Led} {fr fr' : Frz} (e : Ext led led') (h : Sub fr fr') {u : List (RV × RV)} {v : List DictEntry} (r : DsRel P K led fr u v) : DsRel P K led' fr' u v := by
  induction r with
  | nil => exact .nil
  | cons x _ ih => exact .cons (x.mono e h) ih
theorem ORel.mono {P : Params} {K : Frag} {led led' : Led} {fr fr' : Frz} (e : Ext led led') (h : Sub fr fr') {o : RO} {b : List (Addr × Obj)} (r : ORel P K led fr o b) : ORel P K led' fr' o b := by
  cases r with
  | list x => exact .list (x.mono e h)
  | dict x d => exact .dict (x.mono e h) d
  | inst i x => exact .inst i (x.mono e h)
theorem HRel.mono {P : Params} {K : Frag} {led : Led} {fr fr' : Frz} {H : RH} (r : HRel P K led fr H) (h : Sub fr fr') : HRel P K led fr' H :=
  ⟨r.1, fun i o e => let ⟨b, hb, x⟩ := r.2 i o e; ⟨b, hb, x.mono (Ext.refl _) h⟩⟩

/-- nothing of the shared state but the heap and the tokens has turned -/
def Sm (s s' : Shared) : Prop := s'.gens = s.gens ∧ s'.drawn = s.drawn ∧ s'.os = s.os
theorem Sm.refl (s : Shared) : Sm s s := ⟨rfl, rfl, rfl⟩
theorem Sm.trans {a b c : Shared} (x : Sm a b) (y : Sm b c) : Sm a c := ⟨y.1.trans x.1, y.2.1.trans x.2.1, y.2.2.trans x.2.2⟩
theorem Sm.with {s s' : Shared} (x : Sm s s') (h : Heap) (t : Nat) : Sm s { s' with heap := h, toks := t } := ⟨x.1, x.2.1, x.2.2⟩

structure Rel (P : Params) (K : Frag) (h₀ : Heap) (L : Addr) (mF : Str → Option Value) (led : Led) (fr : Frz) (H : RH) (s : Shared) : Prop where
  F : Fr h₀ L s.heap mF
  N : News h₀ L s.heap (led.flatten ++ fr)
  D : (led.flatten.map (·.1)).Nodup
  X : ∀ p ∈ fr, p.1 ∉ led.flatten.map (·.1)
  R : HRel P K led fr H

section
variable {P : Params} {K : Frag} {h₀ : Heap} {L : Addr} {mF : Str → Option Value} {led led' : Led} {fr fr' : Frz} {H H' : RH} {s s' : Shared}
theorem Rel.toks (r : Rel P K h₀ L mF led fr H s) (t : Nat) : Rel P K h₀ L mF led fr H { s with toks := t } := ⟨r.F, r.N, r.D, r.X, r.R⟩
theorem mem_flat {p : Addr × Obj} {b : List (Addr × Obj)} {i : Nat} (h : led[i]? = some b) (hp : p ∈ b) : p ∈ led.flatten :=
  List.mem_flatten.mpr ⟨b, List.mem_of_getElem? h, hp⟩
theorem Rel.at (r : Rel P K h₀ L mF led fr H s) {p : Addr × Obj} (h : p ∈ led.flatten ++ fr) : s.heap.get? p.1 = some p.2 := (r.N p h).1
theorem Rel.fresh (r : Rel P K h₀ L mF led fr H s) : s.heap.objs.size ∉ (led.flatten ++ fr).map (·.1) := fun h => by
  obtain ⟨p, hp, e⟩ := List.mem_map.mp h
  have := Heap.lt_size (r.at hp)
  rw [e] at this
  exact Nat.lt_irrefl _ this
/-- a thing that stands still is made -/
theorem Rel.newFr (r : Rel P K h₀ L mF led fr H s) (o : Obj) (hf : o.isFreed = false) : Rel P K h₀ L mF led ((s.heap.objs.size, o) :: fr) H { s with heap := s.heap.push o } := by
  refine ⟨r.F.push o, ?_, r.D, ?_, r.R.mono fun p h => .tail _ h⟩
  · intro p hp
    have N' := News.push r.F r.N o hf
    rcases List.mem_append.mp hp with h | h
    · exact N' p (.tail _ (List.mem_append.mpr (.inl h)))
    · rcases List.mem_cons.mp h with rfl | h
      · exact N' _ (.head _)
      · exact N' p (.tail _ (List.mem_append.mpr (.inr h)))
  · intro p hp
    rcases List.mem_cons.mp hp with rfl | h
    · exact fun q => r.fresh (by rw [List.map_append]; exact List.mem_append.mpr (.inl q))
    · exact r.X p h
theorem adr_snoc (b : List (Addr × Obj)) : Ext led (led ++ [b]) := fun i a e => by
  unfold adr at e ⊢
  have hi : i < led.length := by
    by_cases h : i < led.length
    · exact h
    · rw [List.getElem?_eq_none (by omega)] at e; cases e
  rw [List.getElem?_append_left hi]; exact e
theorem adr_last (p : Addr × Obj) (b : List (Addr × Obj)) : adr (led ++ [p :: b]) led.length = some p.1 := by
  unfold adr
  rw [List.getElem?_append_right (Nat.le_refl _), Nat.sub_self]; rfl
/-- an object of one piece is made -/
theorem Rel.newOb (r : Rel P K h₀ L mF led fr H s) (o : Obj) (ro : RO) (hf : o.isFreed = false)
    (hr : ORel P K (led ++ [[(s.heap.objs.size, o)]]) fr ro [(s.heap.objs.size, o)]) :
    Rel P K h₀ L mF (led ++ [[(s.heap.objs.size, o)]]) fr (H ++ [ro]) { s with heap := s.heap.push o } := by
  have N' := News.push r.F r.N o hf
  refine ⟨r.F.push o, ?_, ?_, ?_, ⟨by simp [r.R.1], fun i x e => ?_⟩⟩
  · intro p hp
    simp only [List.flatten_append, List.mem_append, List.flatten_cons, List.flatten_nil, List.append_nil, List.mem_singleton] at hp
    rcases hp with (h | h) | h
    · exact N' p (.tail _ (List.mem_append.mpr (.inl h)))
    · subst h; exact N' _ (.head _)
    · exact N' p (.tail _ (List.mem_append.mpr (.inr h)))
  · have hq := r.fresh
    simp only [List.map_append, List.mem_append, not_or] at hq
    simp only [List.flatten_append, List.flatten_cons, List.flatten_nil, List.append_nil, List.map_append, List.map_cons, List.map_nil]
    rw [List.nodup_append]
    refine ⟨r.D, by simp, ?_⟩
    intro a ha b hb e
    simp only [List.mem_singleton] at hb
    subst hb; subst e
    exact hq.1 ha
  · intro p hp q
    simp only [List.flatten_append, List.flatten_cons, List.flatten_nil, List.append_nil, List.map_append, List.map_cons, List.map_nil, List.mem_append, List.mem_singleton] at q
    rcases q with q | q
    · exact r.X p hp q
    · have := r.fresh
      simp only [List.map_append, List.mem_append, not_or] at this
      exact this.2 (q ▸ List.mem_map_of_mem hp)
  · by_cases hi : i < H.length
    · rw [List.getElem?_append_left hi] at e
      obtain ⟨b, hb, x'⟩ := r.R.2 i x e
      exact ⟨b, by rw [List.getElem?_append_left (by rw [r.R.1]; exact hi)]; exact hb, x'.mono (adr_snoc _) (Sub.refl _)⟩
    · have hi' : i = H.length := by
        have : i < (H ++ [ro]).length := by
          by_cases h : i < (H ++ [ro]).length
          · exact h
          · rw [List.getElem?_eq_none (by omega)] at e; cases e
        simp at this; omega
      subst hi'
      rw [List.getElem?_append_right (Nat.le_refl _), Nat.sub_self] at e
      cases e
      refine ⟨_, ?_, hr⟩
      rw [← r.R.1, List.getElem?_append_right (Nat.le_refl _), Nat.sub_self]; rfl
end
end Mine

namespace Mine
open PySem PySem.W PySem.Calls PyProof.Rows

/-- an activation: a frame of the text's own, with room for n more -/
structure ActK (prog : Program) (K : Frag) (p : Program) (loose : List Str) (mg mb : Str → Option Value) (A : Around) (fenv : Env) (h₀ : Heap) (L : Addr) (n k : Nat) : Prop where
  bel : ∃ A₀ base outer, Below A₀ base outer h₀ ∧ A.frames = some (fenv :: outer)
  frm : fenv.frame = some L
  knd : fenv.scope.kind = .function
  gen : fenv.scope.isGenerator = false
  cor : fenv.scope.isCoroutine = false
  gl : fenv.globals = mainGlobals
  bl : fenv.builtins = builtinsNs
  X : K.In h₀
  T : TopRead p loose mg mb h₀
  sr : h₀.NoSeer
  tr : prog.given.tree = none
  hd : A.handled = none
  dep : A.depth + 10 * n + 115 + k < recursionLimit
  uni : A.units + 40 * n + 195 + k < cLine

abbrev Act (prog : Program) (K : Frag) (p : Program) (loose : List Str) (mg mb : Str → Option Value) (A : Around) (fenv : Env) (h₀ : Heap) (L : Addr) (n : Nat) : Prop := ActK prog K p loose mg mb A fenv h₀ L n 5

structure EnvOk (env : Env) (ns : Ns) (L : Addr) (mF mL : Str → Option Value) (fr : Frz) : Prop where
  knd : env.scope.kind = .function
  gl : env.globals = mainGlobals
  bl : env.builtins = builtinsNs
  frm : env.frame = some L
  kin : ∀ x k, ns.lookup x = some k → env.kindOf x = some k ∨ (k = .free ∧ env.kindOf x = some .cell)
  cel : ∀ x, (ns.lookup x = some .cell ∨ ns.lookup x = some .free) → ∃ c, env.cells.lookup x = some c
  at_ : (env.locals = L ∧ mL = mF) ∨ ∃ o es ep, (env.locals, o) ∈ fr ∧ o.data = .dict es ep ∧ StrKeys es ∧ ∀ name, nsFind es name = mL name

def LRel (K : Frag) (led : Led) (fr : Frz) (env : Env) (mL : Str → Option Value) (loc : Loc) : Prop :=
  ∀ x v, loc.lookup x = some v →
    (env.kindOf (Str.ofString x) = some .local → ∃ u, mL (Str.ofString x) = some u ∧ VRel K led fr v u) ∧
    (env.kindOf (Str.ofString x) = some .cell ∨ env.kindOf (Str.ofString x) = some .free → ∃ c o u, env.cells.lookup (Str.ofString x) = some c ∧ (c, o) ∈ fr ∧ o.data = .cell (some u) ∧ VRel K led fr v u)

section
variable {prog : Program} {w : World} {K : Frag} {p : Program} {loose : List Str} {mg mb : Str → Option Value} {A : Around} {fenv env : Env} {ns : Ns} {h₀ : Heap} {L : Addr} {n : Nat} {mF mL : Str → Option Value}
  {led led' : Led} {fr fr' : Frz} {H : RH} {loc : Loc} {s s' : Shared} {E : Value → Shared → Prop} {P : Params}

theorem EnvOk.mono (e : EnvOk env ns L mF mL fr) (h : Sub fr fr') : EnvOk env ns L mF mL fr' :=
  ⟨e.knd, e.gl, e.bl, e.frm, e.kin, e.cel, e.at_.imp id fun ⟨o, es, ep, m, r⟩ => ⟨o, es, ep, h _ m, r⟩⟩
theorem LRel.mono (l : LRel K led fr env mL loc) (x : Ext led led') (h : Sub fr fr') : LRel K led' fr' env mL loc := fun y v e =>
  ⟨fun k => let ⟨u, a, b⟩ := (l y v e).1 k; ⟨u, a, b.mono x h⟩, fun k => let ⟨c, o, u, a, b, d, r⟩ := (l y v e).2 k; ⟨c, o, u, a, h _ b, d, r.mono x h⟩⟩
theorem Rel.nsAt (r : Rel P K h₀ L mF led fr H s) (e : EnvOk env ns L mF mL fr) : s.heap.Ns env.locals mL := by
  rcases e.at_ with ⟨a, b⟩ | ⟨o, es, ep, m, d, k, f⟩
  · rw [a, b]; exact r.F.ns
  · exact ⟨o, es, ep, r.at (List.mem_append.mpr (.inr m)), d, k, f⟩

/-- what is handed on behind an expression -/
def EPost (P : Params) (K : Frag) (h₀ : Heap) (L : Addr) (mF : Str → Option Value) (led : Led) (fr : Frz) (s : Shared) (Qr : PV) (Q : Value → Shared → Prop) : Prop :=
  ∀ v u led' fr' H' s', Qr v H' → VRel K led' fr' v u → Rel P K h₀ L mF led' fr' H' s' → Ext led led' → Sub fr fr' → Sm s s' → Q u s'

theorem name_loc {x : String} {pos : Pos} {Qr : PV} {Q : Value → Shared → Prop} (hx : isL (ns.lookup (Str.ofString x)) = true) (hb : dbg (Str.ofString x) = false)
    (e : EnvOk env ns L mF mL fr) (l : LRel K led fr env mL loc) (r : Rel P K h₀ L mF led fr H s)
    (hw : match loc.lookup x with | some v => Qr v H | none => False) (hQ : EPost P K h₀ L mF led fr s Qr Q) :
    wpAny (model prog w) A (eval (.Name (Str.ofString x) pos) env) Q E s := by
  cases hv : loc.lookup x with
  | none => rw [hv] at hw; exact hw.elim
  | some v =>
    rw [hv] at hw
    simp only [dbg, Bool.or_eq_false_iff] at hb
    have fin : ∀ u, VRel K led fr v u → Q u s := fun u hu => hQ v u led fr H s hw hu r (Ext.refl _) (Sub.refl _) (Sm.refl _)
    cases hk : ns.lookup (Str.ofString x) with
    | none => rw [hk] at hx; simp [isL] at hx
    | some k =>
      rw [hk] at hx
      have kin := e.kin _ _ hk
      have cellCase : (env.kindOf (Str.ofString x) = some .cell ∨ env.kindOf (Str.ofString x) = some .free) → wpAny (model prog w) A (eval (.Name (Str.ofString x) pos) env) Q E s := fun hc => by
        obtain ⟨c, o, u, h1, h2, h3, h4⟩ := (l x v hv).2 hc
        have hcell : s.heap.IsCell c (some u) := ⟨o, r.at (List.mem_append.mpr (.inr h2)), h3⟩
        rcases hc with hc | hc
        · exact wpAny_Name (wpAny_loadName_cell e.knd hc h1 hcell (fin u h4)) hb.1
        · exact wpAny_Name (wpAny_loadName_free e.knd hc h1 hcell (fin u h4) hb.2) hb.1
      rcases kin with kin | ⟨rfl, kin⟩
      · cases k with
        | «local» =>
          obtain ⟨u, h1, h2⟩ := (l x v hv).1 kin
          exact wpAny_Name (wpAny_loadName_local e.knd kin (r.nsAt e) h1 (fin u h2)) hb.1
        | cell => exact cellCase (.inl kin)
        | free => exact cellCase (.inr kin)
        | globalExplicit => simp [isL] at hx
        | globalImplicit => simp [isL] at hx
      · exact cellCase (.inl kin)

theorem boot_bi : ∀ x ∈ biNames, bootBuiltins (Str.ofString x) = some (.builtin x) := by decide +kernel
theorem boot_ty : ∀ x ∈ tyNames, bootBuiltins (Str.ofString x) = some (.type x) := by decide +kernel
theorem ne_name_bi : ∀ x ∈ biNames ++ tyNames, Str.ofString x ≠ ("__name__" : Str) := by decide +kernel

/-- the text as we read it is the text as the top laid it -/
structure ProgOk (K : Frag) (G : RProg) : Prop where
  fn : ∀ x d, G.funs.lookup x = some d → ∃ f, nsIn K mainGlobals (Str.ofString x) = some (some (.ref f)) ∧ mtFn K f (Str.ofString x) d = true
  cl : ∀ c ms, G.clss.lookup c = some ms → ∃ C, nsIn K mainGlobals (Str.ofString c) = some (some (.ref C)) ∧ makesIn K C = true ∧ hasDictIn K C = true ∧ keepIn K (.ref C) = true ∧
    (plainGet K C (Str.ofString c) = true ∧ findIn K (.ref C) "__setattr__" = some (some (.builtin "object.__setattr__")) ∧ plainOver K C = true ∧
      ∀ x ∈ ms.attrs, ∃ attr, findIn K (.ref C) (Str.ofString x) = some attr ∧ noGet K attr = true ∧ takerIn K C (Str.ofString x) = some none) ∧
    ∀ m d, ms.ms.lookup m = some d → ∃ f, findIn K (.ref C) (Str.ofString m) = some (some (.ref f)) ∧ isFn K (.ref f) = true ∧ mtFn K f (Str.ofString c ++ "." ++ Str.ofString m) d = true
  vl : ∀ x v, G.vals.lookup x = some v → ∃ u, nsIn K mainGlobals (Str.ofString x) = some (some u) ∧ mtV K 4 u v = true
  bi : ∀ x ∈ biNames, nsIn K mainGlobals (Str.ofString x) = some none
  ty : ∀ x ∈ tyNames, nsIn K mainGlobals (Str.ofString x) = some none

theorem lookup_mem {α β : Type} [BEq α] [LawfulBEq α] {x : α} {v : β} : ∀ {l : List (α × β)}, l.lookup x = some v → (x, v) ∈ l
  | [], h => by cases h
  | (y, u) :: r, h => by
    rw [List.lookup_cons] at h
    cases hq : x == y with
    | true => rw [hq] at h; cases h; rw [eq_of_beq hq]; exact .head _
    | false => rw [hq] at h; exact .tail _ (lookup_mem h)

theorem progOk {G : RProg} (h : mtProg K G = true) : ProgOk K G := by
  simp only [mtProg, Bool.and_eq_true] at h
  obtain ⟨⟨⟨⟨h1, h2⟩, h3⟩, h4⟩, h5⟩ := h
  refine ⟨fun x d e => ?_, fun c ms e => ?_, fun x v e => ?_, fun x hx => ?_, fun x hx => ?_⟩
  · have := List.all_eq_true.mp h1 _ (lookup_mem e)
    dsimp only at this
    split at this
    · rename_i f hf; exact ⟨f, hf, this⟩
    · cases this
  · have := List.all_eq_true.mp h2 _ (lookup_mem e)
    dsimp only at this
    split at this
    · rename_i C hC
      simp only [Bool.and_eq_true] at this
      obtain ⟨⟨⟨⟨⟨⟨⟨k1, k2⟩, k3⟩, k4⟩, k5⟩, k6⟩, k7⟩, k8⟩ := this
      refine ⟨C, hC, k1, k2, k3, ⟨k4, eq_of_beq k5, k6, fun x hx => ?_⟩, fun m d e' => ?_⟩
      · have := List.all_eq_true.mp k7 _ hx
        try dsimp only at this
        split at this
        · rename_i attr ha
          simp only [Bool.and_eq_true] at this
          exact ⟨attr, ha, this.1, eq_of_beq this.2⟩
        · cases this
      have := List.all_eq_true.mp k8 _ (lookup_mem e')
      dsimp only at this
      split at this
      · rename_i f hf
        simp only [Bool.and_eq_true] at this
        exact ⟨f, hf, this.1, this.2⟩
      · cases this
    · cases this
  · have := List.all_eq_true.mp h5 _ (lookup_mem e)
    dsimp only at this
    split at this
    · rename_i u hu; exact ⟨u, hu, this⟩
    · cases this
  · have := List.all_eq_true.mp h3 _ hx
    exact eq_of_beq this
  · have := List.all_eq_true.mp h4 _ hx
    exact eq_of_beq this

mutual
theorem VRel_of_mtV : ∀ (n : Nat) (u : Value) (v : RV), mtV K n u v = true → VRel K led fr v u
  | n, u, v, h => by
    cases v with
    | none => cases u <;> simp [mtV] at h; exact .none
    | bool b => cases u <;> simp [mtV] at h; subst h; exact .bool _
    | int i => cases u <;> simp [mtV] at h; subst h; exact .int _ _
    | str x => cases u <;> simp [mtV] at h; subst h; exact .str _ _
    | fn x => cases u <;> simp [mtV] at h; exact .fn h
    | tup us =>
      cases u with
      | ref a =>
        cases n with
        | zero => simp [mtV] at h
        | succ n =>
          simp only [mtV] at h
          split at h
          · rename_i t vs k sl hK
            simp only [Bool.and_eq_true, decide_eq_true_eq] at h
            obtain ⟨⟨⟨ht, hs⟩, hl⟩, ha⟩ := h
            have e1 : t = "tuple" := eq_of_beq ht
            have e2 : sl = #[] := by simpa using hs
            subst e1; subst e2
            have : VsRel K led fr us vs.toList := VsRel_of_mtV n vs.toList us hl ha
            refine .tup (vs := vs.toList) (n := k) (.inr ?_) this
            rw [hK]
          · cases h
      | _ => simp [mtV] at h
    | _ => cases u <;> simp [mtV] at h
theorem VsRel_of_mtV : ∀ (n : Nat) (vs : List Value) (us : List RV), vs.length = us.length → ((vs.zip us).all fun p => mtV K n p.1 p.2) = true → VsRel K led fr us vs
  | n, [], [], _, _ => .nil
  | n, v :: vs, u :: us, hl, h => by
    simp only [List.zip_cons_cons, List.all_cons, Bool.and_eq_true] at h
    exact .cons (VRel_of_mtV n v u h.1) (VsRel_of_mtV n vs us (by simpa using hl) h.2)
  | n, [], _ :: _, hl, _ => by simp at hl
  | n, _ :: _, [], hl, _ => by simp at hl
end

theorem name_glb {G : RProg} {x : String} {pos : Pos} {Qr : PV} {Q : Value → Shared → Prop} (O : ProgOk K G) (a : Act prog K p loose mg mb A fenv h₀ L n)
    (hx : ns.lookup (Str.ofString x) = some .globalImplicit) (hb : dbg (Str.ofString x) = false)
    (e : EnvOk env ns L mF mL fr) (r : Rel P K h₀ L mF led fr H s)
    (hw : match globR G x with | some v => Qr v H | none => False) (hQ : EPost P K h₀ L mF led fr s Qr Q) :
    wpAny (model prog w) A (eval (.Name (Str.ofString x) pos) env) Q E s := by
  simp only [dbg, Bool.or_eq_false_iff] at hb
  have kin : env.kindOf (Str.ofString x) = some .globalImplicit := by
    rcases e.kin _ _ hx with h | ⟨h, _⟩
    · exact h
    · cases h
  have glob : ∀ u v, nsIn K mainGlobals (Str.ofString x) = some (some u) → globR G x = some v → VRel K led fr v u → wpAny (model prog w) A (eval (.Name (Str.ofString x) pos) env) Q E s := fun u v h1 h2 h3 => by
    rw [h2] at hw
    refine Name_function_global e.knd kin (loadGlobal_global (mg := mg) ?_ (mg_of a.X a.T.g h1) (hQ v u led fr H s hw h3 r (Ext.refl _) (Sub.refl _) (Sm.refl _))) hb.1
    rw [e.gl]; exact a.T.g.keeps r.F.keep
  have built : ∀ u v, nsIn K mainGlobals (Str.ofString x) = some none → bootBuiltins (Str.ofString x) = some u → Str.ofString x ≠ ("__name__" : Str) → globR G x = some v → VRel K led fr v u → wpAny (model prog w) A (eval (.Name (Str.ofString x) pos) env) Q E s := fun u v h1 h1' h1'' h2 h3 => by
    rw [h2] at hw
    refine Name_function_global e.knd kin (loadGlobal_builtin (mg := mg) (mb := mb) ?_ (mg_none_of a.X a.T.g h1) ?_ ((a.T.builtins _ h1'').trans h1') (hQ v u led fr H s hw h3 r (Ext.refl _) (Sub.refl _) (Sm.refl _))) hb.1
    · rw [e.gl]; exact a.T.g.keeps r.F.keep
    · rw [e.bl]; exact a.T.b.keeps r.F.keep
  have hg : globR G x = globR G x := rfl
  conv at hg => rhs; unfold globR
  split at hg
  · rename_i h
    obtain ⟨d, hd⟩ := Option.isSome_iff_exists.mp h
    obtain ⟨f, hf, _⟩ := O.fn x d hd
    exact glob _ _ hf hg (.fn hf)
  · split at hg
    · rename_i h
      obtain ⟨d, hd⟩ := Option.isSome_iff_exists.mp h
      obtain ⟨f, hf, _⟩ := O.cl x d hd
      exact glob _ _ hf hg (.cls hf)
    · split at hg
      · rename_i v hv
        obtain ⟨u, hu, hm⟩ := O.vl x v hv
        exact glob _ _ hu hg (VRel_of_mtV _ _ _ hm)
      · split at hg
        · rename_i h
          have hm : x ∈ biNames := by simpa using h
          exact built _ _ (O.bi x hm) (boot_bi x hm) (ne_name_bi x (List.mem_append.mpr (.inl hm))) hg (.bi x)
        · split at hg
          · rename_i h
            have hm : x ∈ tyNames := by simpa using h
            exact built _ _ (O.ty x hm) (boot_ty x hm) (ne_name_bi x (List.mem_append.mpr (.inr hm))) hg (.ty x)
          · rw [hg] at hw; exact hw.elim
end
end Mine

namespace Mine
open PySem PySem.W PySem.Calls PyProof.Rows

section
variable {prog : Program} {w : World} {K : Frag} {p : Program} {loose : List Str} {mg mb : Str → Option Value} {A : Around} {fenv env : Env} {ns : Ns} {h₀ : Heap} {L : Addr} {n : Nat} {mF mL : Str → Option Value}
  {led led' : Led} {fr fr' : Frz} {H H' : RH} {loc : Loc} {s s' : Shared} {E : Value → Shared → Prop} {P : Params} {Qr : PV} {Q : Value → Shared → Prop}

theorem Rel.addFr (r : Rel P K h₀ L mF led fr H s) {a : Addr} {o : Obj} (F' : Fr h₀ L s'.heap mF) (N' : News h₀ L s'.heap ((a, o) :: (led.flatten ++ fr))) (ha : a ∉ led.flatten.map (·.1)) :
    Rel P K h₀ L mF led ((a, o) :: fr) H s' := by
  refine ⟨F', fun p hp => ?_, r.D, fun p hp => ?_, r.R.mono fun p h => .tail _ h⟩
  · rcases List.mem_append.mp hp with h | h
    · exact N' p (.tail _ (List.mem_append.mpr (.inl h)))
    · rcases List.mem_cons.mp h with rfl | h
      · exact N' _ (.head _)
      · exact N' p (.tail _ (List.mem_append.mpr (.inr h)))
  · rcases List.mem_cons.mp hp with rfl | h
    · exact ha
    · exact r.X p h
theorem Rel.addOb (r : Rel P K h₀ L mF led fr H s) {a : Addr} {o : Obj} {ro : RO} (F' : Fr h₀ L s'.heap mF) (N' : News h₀ L s'.heap ((a, o) :: (led.flatten ++ fr))) (ha : a ∉ (led.flatten ++ fr).map (·.1))
    (hr : ORel P K (led ++ [[(a, o)]]) fr ro [(a, o)]) : Rel P K h₀ L mF (led ++ [[(a, o)]]) fr (H ++ [ro]) s' := by
  refine ⟨F', ?_, ?_, ?_, ⟨by simp [r.R.1], fun i x e => ?_⟩⟩
  · intro p hp
    simp only [List.flatten_append, List.mem_append, List.flatten_cons, List.flatten_nil, List.append_nil, List.mem_singleton] at hp
    rcases hp with (h | h) | h
    · exact N' p (.tail _ (List.mem_append.mpr (.inl h)))
    · subst h; exact N' _ (.head _)
    · exact N' p (.tail _ (List.mem_append.mpr (.inr h)))
  · simp only [List.map_append, List.mem_append, not_or] at ha
    simp only [List.flatten_append, List.flatten_cons, List.flatten_nil, List.append_nil, List.map_append, List.map_cons, List.map_nil]
    rw [List.nodup_append]
    refine ⟨r.D, by simp, ?_⟩
    intro x hx b hb e
    simp only [List.mem_singleton] at hb
    subst hb; subst e
    exact ha.1 hx
  · intro p hp q
    simp only [List.flatten_append, List.flatten_cons, List.flatten_nil, List.append_nil, List.map_append, List.map_cons, List.map_nil, List.mem_append, List.mem_singleton] at q
    rcases q with q | q
    · exact r.X p hp q
    · simp only [List.map_append, List.mem_append, not_or] at ha
      exact ha.2 (q ▸ List.mem_map_of_mem hp)
  · by_cases hi : i < H.length
    · rw [List.getElem?_append_left hi] at e
      obtain ⟨b, hb, x'⟩ := r.R.2 i x e
      exact ⟨b, by rw [List.getElem?_append_left (by rw [r.R.1]; exact hi)]; exact hb, x'.mono (adr_snoc _) (Sub.refl _)⟩
    · have hi' : i = H.length := by
        have : i < (H ++ [ro]).length := by
          by_cases h : i < (H ++ [ro]).length
          · exact h
          · rw [List.getElem?_eq_none (by omega)] at e; cases e
        simp at this; omega
      subst hi'
      rw [List.getElem?_append_right (Nat.le_refl _), Nat.sub_self] at e
      cases e
      refine ⟨_, ?_, hr⟩
      rw [← r.R.1, List.getElem?_append_right (Nat.le_refl _), Nat.sub_self]; rfl

theorem VsRel.length {us : List RV} {vs : List Value} (h : VsRel K led fr us vs) : us.length = vs.length := by
  induction us generalizing vs with
  | nil => cases h; rfl
  | cons u us ih => cases h with | cons _ r => simp [ih r]
theorem VsRel.append {us us' : List RV} {vs vs' : List Value} (h : VsRel K led fr us vs) (h' : VsRel K led fr us' vs') : VsRel K led fr (us ++ us') (vs ++ vs') := by
  induction us generalizing vs with
  | nil => cases h; exact h'
  | cons u us ih => cases h with | cons x r => exact .cons x (ih r)
theorem VsRel.get {us : List RV} {vs : List Value} (h : VsRel K led fr us vs) : ∀ (k : Nat) (u : RV), us[k]? = some u → ∃ v, vs[k]? = some v ∧ VRel K led fr u v := by
  induction us generalizing vs with
  | nil => intro k u e; simp at e
  | cons u us ih =>
    cases h with
    | cons x r =>
      intro k u' e
      cases k with
      | zero => simp at e; subst e; exact ⟨_, rfl, x⟩
      | succ k => simp at e; simpa using ih r k u' e

/-- an object's block, out of its number -/
theorem Rel.list_at (r : Rel P K h₀ L mF led fr H s) {i : Nat} {us : List RV} {a : Addr} (e : H[i]? = some (.list us)) (ha : adr led i = some a) :
    ∃ vs n, VsRel K led fr us vs ∧ led[i]? = some [(a, lstO vs n)] ∧ (a, lstO vs n) ∈ led.flatten ∧ s.heap.get? a = some (lstO vs n) := by
  obtain ⟨b, hb, x⟩ := r.R.2 i _ e
  cases x with
  | list x =>
    rename_i vs a' n
    unfold adr at ha
    rw [hb] at ha
    cases ha
    have m := mem_flat hb (List.mem_singleton.mpr rfl)
    exact ⟨_, _, x, hb, m, r.at (List.mem_append.mpr (.inl m))⟩
theorem isList_of {h : Heap} {a : Addr} {vs : List Value} {n : Nat} (e : h.get? a = some (lstO vs n)) : h.IsList a vs.toArray := ⟨_, e, rfl, n, rfl⟩

theorem small_bits {x : Int} (h : smallI x) : Builtin.Int.intBits x ≤ 64 := by
  unfold smallI at h
  unfold Builtin.Int.intBits
  split
  · omega
  · have hz : x.natAbs ≠ 0 := by
      intro h0
      rename_i hx
      have : x = 0 := by omega
      simp [this] at hx
    have := (Nat.log2_lt hz).mpr h
    omega

theorem Act.pylong (a : Act prog K p loose mg mb A fenv h₀ L n) (r : Rel P K h₀ L mF led fr H s) : PylongRoom (model prog w) A s := by
  obtain ⟨A₀, base, outer, hB, hA⟩ := a.bel
  refine PylongRoom.of (a.T.nolimit.keeps r.F.keep) ?_ (SeerAt.of (a.sr.keeps r.F.keep) a.tr hA a.gen a.cor a.bl a.gl)
  have := a.dep
  show A.depth + 100 < recursionLimit
  omega

theorem bin_ok {op : Operator} {x y : RV} {u v : Value} (a : Act prog K p loose mg mb A fenv h₀ L n) (r : Rel P K h₀ L mF led fr H s) (hx : VRel K led fr x u) (hy : VRel K led fr y v)
    (hw : binR op x y H Qr) (hQ : EPost P K h₀ L mF led fr s Qr Q) : wpAny (model prog w) A (binaryOp op u v) Q E s := by
  have int : ∀ i t, Qr (.int i) H → Q (.int i s.toks) { s with toks := t } := fun i t h => hQ _ _ led fr H _ h (.int _ _) (r.toks _) (Ext.refl _) (Sub.refl _) ((Sm.refl s).with s.heap t)
  unfold binR at hw
  split at hw
  · cases hx; cases hy; exact _root_.PySem.P.add_int (int _ _ hw)
  · cases hx; cases hy; exact _root_.PySem.P.sub_int (int _ _ hw)
  · cases hx; cases hy; exact _root_.PySem.P.mul_int (int _ _ hw.2.2) (IntMulOk.of_left (small_bits hw.1))
  · cases hx; cases hy; exact floordiv_int hw.1 (int _ _ hw.2) (.inr (a.pylong r))
  · cases hx; cases hy; exact mod_int' hw.1 (int _ _ hw.2)
  · cases hx with
    | str _ t => cases hy with
      | str _ t' =>
        refine add_str (fun t₁ t₂ => hQ _ _ led fr H _ hw.2 (.str _ _) (r.toks _) (Ext.refl _) (Sub.refl _) ((Sm.refl s).with s.heap t₂)) ?_
        have := hw.1
        rw [Str.length_append] at this
        exact this
  · split at hw
    · rename_i i j xs ys hi hj
      cases hx with
      | ref ha => cases hy with
        | ref hb =>
          obtain ⟨vs, n1, R1, _, m1, g1⟩ := r.list_at hi ha
          obtain ⟨ws, n2, R2, _, m2, g2⟩ := r.list_at hj hb
          refine add_lists r.F r.N (isList_of g1) (isList_of g2) (fun h' F' N' => ?_) ?_
          · have hfresh := r.fresh
            have hE : Ext led (led ++ [[(s.heap.objs.size, lstO (vs ++ ws) 0)]]) := adr_snoc _
            refine hQ _ _ (led ++ [[(s.heap.objs.size, lstO (vs ++ ws) 0)]]) fr (H ++ [.list (xs ++ ys)]) _ hw.2 ?_ (r.addOb (s' := { s with heap := h' }) F' N' hfresh (.list ((R1.mono hE (Sub.refl _)).append (R2.mono hE (Sub.refl _))))) hE (Sub.refl _) ((Sm.refl s).with h' s.toks)
            rw [← r.R.1]; exact .ref (adr_last _ _)
          · rw [← R1.length, ← R2.length, ← List.length_append]; exact hw.1
    · exact hw.elim
  · exact hw.elim
end
end Mine

namespace Mine
open PySem PySem.W PySem.Calls PyProof.Rows PySem.SeqAt

section
variable {prog : Program} {w : World} {K : Frag} {p : Program} {loose : List Str} {mg mb : Str → Option Value} {A : Around} {fenv env : Env} {ns : Ns} {h₀ : Heap} {L : Addr} {n : Nat} {mF mL : Str → Option Value}
  {led led' : Led} {fr fr' : Frz} {H H' : RH} {loc : Loc} {s s' : Shared} {E : Value → Shared → Prop} {P : Params} {Qr : PV} {Q : Value → Shared → Prop}

theorem Act.in (a : Act prog K p loose mg mb A fenv h₀ L n) (r : Rel P K h₀ L mF led fr H s) : K.In s.heap := a.X.keeps r.F.keep
theorem Rel.imm (r : Rel P K h₀ L mF led fr H s) (X : K.In h₀) {a : Addr} {o : Obj} (i : Imm K fr a o) : s.heap.get? a = some o :=
  i.elim (fun h => r.at (List.mem_append.mpr (.inr h))) fun h => (X.keeps r.F.keep) _ _ h

mutual
theorem reads_of (r : Rel P K h₀ L mF led fr H s) (X : K.In h₀) : ∀ (v : RV) {u : Value} {d : PyData}, VRel K led fr v u → toPD v = some d → ∃ as, Reads s.heap u d as
  | .none, _, _, h, e => by cases h; simp [toPD] at e; subst e; exact ⟨_, .none⟩
  | .bool b, _, _, h, e => by cases h; simp [toPD] at e; subst e; exact ⟨_, .bool _⟩
  | .int i, _, _, h, e => by cases h; simp [toPD] at e; subst e; exact ⟨_, .int _ _⟩
  | .str x, _, _, h, e => by cases h; simp [toPD] at e; subst e; exact ⟨_, .str _ _⟩
  | .tup us, _, _, h, e => by
    cases h with
    | tup i rs =>
      rename_i a vs k
      simp only [toPD, Option.map_eq_some_iff] at e
      obtain ⟨ds, h1, rfl⟩ := e
      obtain ⟨as, ra⟩ := readsAll_of r X us rs h1
      exact ⟨_, .tuple (r.imm X i) rfl rfl (by simpa using ra)⟩
  | .rng _ _ _, _, _, _, e => by simp [toPD] at e
  | .ref _, _, _, _, e => by simp [toPD] at e
  | .fn _, _, _, _, e => by simp [toPD] at e
  | .cls _, _, _, _, e => by simp [toPD] at e
  | .bi _, _, _, _, e => by simp [toPD] at e
  | .ty _, _, _, _, e => by simp [toPD] at e
  | .fdict _, _, _, _, e => by simp [toPD] at e
theorem readsAll_of (r : Rel P K h₀ L mF led fr H s) (X : K.In h₀) : ∀ (us : List RV) {vs : List Value} {ds : List PyData}, VsRel K led fr us vs → toPDs us = some ds → ∃ as, ReadsAll s.heap vs ds as
  | [], _, _, h, e => by cases h; simp [toPDs] at e; subst e; exact ⟨_, .nil⟩
  | u :: us, _, _, h, e => by
    cases h with
    | cons x rs =>
      simp only [toPDs] at e
      split at e
      · rename_i d ds h1 h2
        cases e
        obtain ⟨as, ra⟩ := reads_of r X u x h1
        obtain ⟨bs, rb⟩ := readsAll_of r X us rs h2
        exact ⟨_, .cons ra rb⟩
      · cases e
end
theorem reads_ofH (r : Rel P K h₀ L mF led fr H s) (X : K.In h₀) (v : RV) {u : Value} {d : PyData} (h : VRel K led fr v u) (e : toPDH H v = some d) : ∃ as, Reads s.heap u d as := by
  cases v with
  | ref i =>
    cases h with
    | ref ha =>
      simp only [toPDH] at e
      split at e
      · rename_i vs hi
        simp only [Option.map_eq_some_iff] at e
        obtain ⟨ds, h1, rfl⟩ := e
        obtain ⟨us, n, R1, _, m1, g1⟩ := r.list_at hi ha
        obtain ⟨as, ra⟩ := readsAll_of r X _ R1 h1
        exact ⟨_, .list g1 rfl rfl (by simpa using ra)⟩
      · cases e
  | _ => exact reads_of r X _ h (by simpa only [toPDH] using e)
theorem readsAll_ofH (r : Rel P K h₀ L mF led fr H s) (X : K.In h₀) : ∀ (us : List RV) {vs : List Value} {ds : List PyData}, VsRel K led fr us vs → toPDHs H us = some ds → ∃ as, ReadsAll s.heap vs ds as
  | [], _, _, h, e => by cases h; simp [toPDHs] at e; subst e; exact ⟨_, .nil⟩
  | u :: us, _, _, h, e => by
    cases h with
    | cons x rs =>
      simp only [toPDHs] at e
      split at e
      · rename_i d ds h1 h2
        cases e
        obtain ⟨as, ra⟩ := reads_ofH r X u x h1
        obtain ⟨bs, rb⟩ := readsAll_ofH r X us rs h2
        exact ⟨_, .cons ra rb⟩
      · cases e
theorem reads_ofHH (r : Rel P K h₀ L mF led fr H s) (X : K.In h₀) (v : RV) {u : Value} {d : PyData} (h : VRel K led fr v u) (e : toPDHH H v = some d) : ∃ as, Reads s.heap u d as := by
  cases v with
  | ref i =>
    cases h with
    | ref ha =>
      simp only [toPDHH] at e
      split at e
      · rename_i vs hi
        simp only [Option.map_eq_some_iff] at e
        obtain ⟨ds, h1, rfl⟩ := e
        obtain ⟨us, n, R1, _, m1, g1⟩ := r.list_at hi ha
        obtain ⟨as, ra⟩ := readsAll_ofH r X _ R1 h1
        exact ⟨_, .list g1 rfl rfl (by simpa using ra)⟩
      · cases e
  | _ => exact reads_of r X _ h (by simpa only [toPDHH] using e)

/-- a step that leaves our heap as it is -/
theorem EPost.same (hQ : EPost P K h₀ L mF led fr s Qr Q) {v : RV} {u : Value} (r : Rel P K h₀ L mF led fr H s) (hw : Qr v H) (hu : VRel K led fr v u) (t : Nat) : Q u { s with toks := t } :=
  hQ v u led fr H _ hw hu (r.toks t) (Ext.refl _) (Sub.refl _) ((Sm.refl s).with s.heap t)
theorem EPost.same' (hQ : EPost P K h₀ L mF led fr s Qr Q) {v : RV} {u : Value} (r : Rel P K h₀ L mF led fr H s) (hw : Qr v H) (hu : VRel K led fr v u) : Q u s :=
  hQ v u led fr H _ hw hu r (Ext.refl _) (Sub.refl _) (Sm.refl s)

theorem is_none_of {v : RV} {u : Value} (h : VRel K led fr v u) : (u == Value.none) = isNoneR v := by
  cases h <;> rfl

/-! dicts keyed by texts -/
def kvsOf (ds : List DictEntry) : List (Str × Value) := ds.map fun e => (strOf e.key, e.val)
theorem kvs_keys (ds : List DictEntry) : (kvsOf ds).map (·.1) = ds.map fun e => strOf e.key := by simp [kvsOf]
theorem DsRel.keys {es : List (RV × RV)} {ds : List DictEntry} (h : DsRel w.params K led fr es ds) : ∀ e ∈ ds, ∃ x t, e.key = .str x t ∧ e.hash = PyData.keyHash w.params x := by
  induction h with
  | nil => intro e he; cases he
  | cons x _ ih =>
    intro e he
    rcases List.mem_cons.mp he with rfl | he
    · exact ⟨_, _, rfl, rfl⟩
    · exact ih e he
theorem DsRel.pairs {es : List (RV × RV)} {ds : List DictEntry} (h : DsRel w.params K led fr es ds) : Pairs (PySem.strKind prog w) ds (kvsOf ds) := by
  induction h with
  | nil => exact .nil
  | cons x _ ih => exact .cons (strKind_is prog w _ _) rfl ih
theorem dict_of {h : Heap} {a : Addr} {n : Nat} {es : List (RV × RV)} {ds : List DictEntry} (r : DsRel w.params K led fr es ds) (hn : (ds.map fun e => strOf e.key).Nodup) (g : h.get? a = some (dctO ds n)) :
    h.DictOf (PySem.strKind prog w) a (kvsOf ds) :=
  ⟨_, _, _, g, ⟨rfl, rfl, rfl⟩, rfl, fun e he => by
    obtain ⟨x, t, e1, e2⟩ := r.keys e (by simpa using he)
    exact ⟨x, by rw [e1]; exact strKind_is prog w x t, e2⟩, by simpa using r.pairs, by rw [kvs_keys]; exact hn⟩
theorem keyEq_str (x y : Str) : keyEq (.str x) (.str y) = (x == y) := by simp [keyEq, toPD, PyData.eqv]
theorem DsRel.get {es : List (RV × RV)} {ds : List DictEntry} (h : DsRel w.params K led fr es ds) (x : Str) :
    (∀ v, dget es (.str x) = some v → ∃ u, valueAt (kvsOf ds) x = some u ∧ VRel K led fr v u) ∧ (dget es (.str x) = none → valueAt (kvsOf ds) x = none) := by
  induction h with
  | nil => exact ⟨fun v e => by simp [dget] at e, fun _ => rfl⟩
  | @cons y u t v fs es hv hr ih =>
    unfold dget valueAt kvsOf at ih ⊢
    simp only [List.find?_cons, List.map_cons, keyEq_str, strOf] at ih ⊢
    by_cases hy : y = x
    · subst hy
      simp only [beq_self_eq_true, decide_true, Option.map_some]
      exact ⟨fun v' e => by cases e; exact ⟨_, rfl, hv⟩, fun e => by cases e⟩
    · have h1 : (y == x) = false := by simpa using hy
      have h2 : decide (y = x) = false := by simpa using hy
      simp only [h1, h2]
      exact ih
theorem Rel.dict_at (r : Rel P K h₀ L mF led fr H s) {i : Nat} {es : List (RV × RV)} {a : Addr} (e : H[i]? = some (.dict es)) (ha : adr led i = some a) :
    ∃ ds n, DsRel P K led fr es ds ∧ (ds.map fun e => strOf e.key).Nodup ∧ led[i]? = some [(a, dctO ds n)] ∧ (a, dctO ds n) ∈ led.flatten ∧ s.heap.get? a = some (dctO ds n) := by
  obtain ⟨b, hb, x⟩ := r.R.2 i _ e
  cases x with
  | dict x d =>
    rename_i vs a' n
    unfold adr at ha
    rw [hb] at ha
    cases ha
    have m := mem_flat hb (List.mem_singleton.mpr rfl)
    exact ⟨_, _, x, d, hb, m, r.at (List.mem_append.mpr (.inl m))⟩
theorem Act.notMods (a : Act prog K p loose mg mb A fenv h₀ L n) (r : Rel P K h₀ L mF led fr H s) {q : Addr × Obj} (m : q ∈ led.flatten ++ fr) : (q.1 == sysModules) = false := by
  obtain ⟨mm, ⟨o, _, _, ho, _⟩, _⟩ := a.sr.mods
  have := (r.N q m).2.2
  cases hq : q.1 == sysModules with
  | false => rfl
  | true => rw [eq_of_beq hq, ho] at this; cases this

theorem in_ok {x y : RV} {u v : Value} {b : Bool} (a : Act prog K p loose mg mb A fenv h₀ L n) (r : Rel w.params K h₀ L mF led fr H s) (hx : VRel K led fr x u) (hy : VRel K led fr y v)
    (hw : inP H x y = some b) (hQ : ∀ t, Q (.bool b) { s with toks := t }) : wpAny (model prog w) A (compareOp .In u v) Q E s := by
  have uni := a.uni
  unfold inP at hw
  split at hw
  · split at hw
    · rename_i vs _ d ds h1 h2
      split at hw
      · rename_i hs
        simp only [Bool.and_eq_true] at hs
        cases hw
        obtain ⟨as, ra⟩ := reads_of r a.X x hx h1
        obtain ⟨bs, rb⟩ := reads_of r a.X _ hy (by simp only [toPD]; rw [h2]; rfl)
        have dp := depth_of_shaped hs.1
        exact SeqAt.in_tuple_reads rb ra (canLay_of_shaped hs.2) (canLay_of_shaped hs.1) (by have := Nat.min_le_right (PyData.depthAll ds) d.depth; omega) (hQ s.toks)
      · cases hw
    · cases hw
  · cases hw
  · cases hy
  · split at hw
    · rename_i i _ vs hi
      split at hw
      · rename_i d ds h1 h2
        split at hw
        · rename_i hs
          simp only [Bool.and_eq_true] at hs
          cases hw
          obtain ⟨as, ra⟩ := reads_of r a.X x hx h1
          obtain ⟨bs, rb⟩ := reads_ofH r a.X (.ref i) hy (d := .list ds) (by simp only [toPDH, hi]; rw [h2]; rfl)
          have dp := depth_of_shaped hs.1
          exact SeqAt.in_list_reads rb ra (canLay_of_shaped hs.2) (canLay_of_shaped hs.1) (by have := Nat.min_le_right (PyData.depthAll ds) d.depth; omega) (hQ s.toks)
        · cases hw
      · cases hw
    · rename_i i _ es hi
      split at hw
      · rename_i hk
        cases x with
        | str z =>
          cases hx with
          | str _ t =>
            cases hy with
            | ref ha =>
              obtain ⟨ds, k, R1, nd, _, m, g⟩ := r.dict_at hi ha
              have M := (dict_of (prog := prog) R1 nd g).mapOf
              have G := R1.get z
              refine wpAny_in_of (strKind_is prog w z t) (a.notMods r (List.mem_append.mpr (.inl m))) M ?_
              cases hg : dget es (.str z) with
              | none => rw [hg] at hw; rw [G.2 hg]; cases hw; exact hQ _
              | some v' => rw [hg] at hw; obtain ⟨u', hu', _⟩ := G.1 v' hg; rw [hu']; cases hw; exact hQ _
        | _ => simp [keyOk] at hk
      · cases hw
    · rename_i i _ es hi
      cases hy with
      | ref ha =>
        obtain ⟨b', hb, x'⟩ := r.R.2 i _ hi
        cases x'
    · cases hw
  · cases hw

theorem notin_ok {x y : RV} {u v : Value} {b : Bool} (a : Act prog K p loose mg mb A fenv h₀ L n) (r : Rel w.params K h₀ L mF led fr H s) (hx : VRel K led fr x u) (hy : VRel K led fr y v)
    (hw : inP H x y = some b) (hQ : ∀ t, Q (.bool (!b)) { s with toks := t }) : wpAny (model prog w) A (compareOp .NotIn u v) Q E s := by
  have h := in_ok (w := w) (E := E) (Q := fun r s' => match r with | .bool b => Q (.bool (!b)) s' | _ => False) a r hx hy hw (by intro t; exact hQ t)
  show wpAny (model prog w) A (do return Value.bool (!(← contains v u))) Q E s
  have h' : wpAny (model prog w) A (do return Value.bool (← contains v u)) (fun r s' => match r with | .bool b => Q (.bool (!b)) s' | _ => False) E s := h
  refine wpAny_bind (fun Γ q hΓ => ?_)
  have h2 := h' Γ q hΓ
  simp only [Sem.wp_bind', Sem.wp_pure'] at h2
  refine Sem.wp_mono _ Γ _ (fun b p' s' hb => ?_) (fun _ _ _ x => x) q s h2
  exact wpAny_pure hb

/-- a comparison whose answer is decided on our side -/
theorem cmp_ok {op : CmpOp} {x y : RV} {u v : Value} {b : Bool} (a : Act prog K p loose mg mb A fenv h₀ L n) (r : Rel w.params K h₀ L mF led fr H s) (hx : VRel K led fr x u) (hy : VRel K led fr y v)
    (hw : cmpP H op x y = some b) (hQ : ∀ t, Q (.bool b) { s with toks := t }) : wpAny (model prog w) A (compareOp op u v) Q E s := by
  have uni := a.uni
  have here : Q (.bool b) s := hQ s.toks
  have eqc : ∀ c, eqP H x y = some c → ∃ da db as bs, Reads s.heap u da as ∧ Reads s.heap v db bs ∧ shaped da = true ∧ shaped db = true ∧ c = PyData.eqv da db := fun c e => by
    unfold eqP at e
    split at e
    · rename_i da db h1 h2
      split at e
      · rename_i hs
        simp only [Bool.and_eq_true] at hs
        cases e
        obtain ⟨as, ra⟩ := reads_ofHH r a.X x hx h1
        obtain ⟨bs, rb⟩ := reads_ofHH r a.X y hy h2
        exact ⟨da, db, as, bs, ra, rb, hs.1, hs.2, rfl⟩
      · cases e
    · cases e
  unfold cmpP at hw
  split at hw
  · obtain ⟨da, db, as, bs, ra, rb, sa, sb, rfl⟩ := eqc b hw
    exact eq_dataH ra rb sa sb (by omega) here
  · simp only [Option.map_eq_some_iff] at hw
    obtain ⟨c, hc, rfl⟩ := hw
    obtain ⟨da, db, as, bs, ra, rb, sa, sb, rfl⟩ := eqc c hc
    exact ne_dataH ra rb sa sb (by omega) here
  · cases hx; cases hy; cases hw; exact _root_.PySem.P.lt_int here
  · cases hx; cases hy; cases hw; exact _root_.PySem.P.le_int here
  · cases hx; cases hy; cases hw; exact _root_.PySem.P.gt_int here
  · cases hx; cases hy; cases hw; exact _root_.PySem.P.ge_int here
  · cases hw; cases hy
    by_cases hv : u = .none
    · subst hv; rw [← is_none_of hx] at here
      exact wpAny_is_self rfl here
    · rw [← is_none_of hx] at here
      exact is_none_ne hv (by have : (u == Value.none) = false := by simpa using hv
                              rw [this] at here; exact here)
  · cases hw; cases hy
    rw [← is_none_of hx] at here
    exact isnot_none_gen here
  · exact in_ok a r hx hy hw hQ
  · simp only [Option.map_eq_some_iff] at hw
    obtain ⟨c, hc, rfl⟩ := hw
    exact notin_ok a r hx hy hc hQ
  · cases hw
end
end Mine

namespace Mine
open PySem PySem.W PySem.Calls PyProof.Rows PySem.SeqAt

theorem sizeLine_is : sizeLine = 16777216 := by decide
section
variable {prog : Program} {w : World} {K : Frag} {p : Program} {loose : List Str} {mg mb : Str → Option Value} {A : Around} {fenv env : Env} {ns : Ns} {h₀ : Heap} {L : Addr} {n : Nat} {mF mL : Str → Option Value}
  {led led' : Led} {fr fr' : Frz} {H H' : RH} {loc : Loc} {s s' : Shared} {E : Value → Shared → Prop} {P : Params} {Qr : PV} {Q : Value → Shared → Prop}

theorem DsRel.length {es : List (RV × RV)} {ds : List DictEntry} (h : DsRel P K led fr es ds) : es.length = ds.length := by
  induction h with
  | nil => rfl
  | cons _ _ ih => simp [ih]
theorem isEmpty_len {vs : List Value} : (!vs.toArray.isEmpty) = (vs.length != 0) := by
  cases vs <;> simp [Array.isEmpty]
theorem truth_ok {v : RV} {u : Value} {b : Bool} {QB : Bool → Shared → Prop} (a : Act prog K p loose mg mb A fenv h₀ L n) (r : Rel w.params K h₀ L mF led fr H s) (hv : VRel K led fr v u)
    (hw : truthR H v = some b) (hQ : ∀ t, QB b { s with toks := t }) : wpAny (model prog w) A (truthy u) QB E s := by
  have sl := sizeLine_is
  unfold truthR at hw
  split at hw
  · cases hv; cases hw; exact truthy_none (hQ s.toks)
  · cases hv; cases hw; exact wpAny_truthy_bool (hQ s.toks)
  · cases hv; cases hw; exact _root_.PySem.P.truthy_int (hQ s.toks)
  · split at hw
    · rename_i z hz
      cases hv with
      | str _ t =>
        cases hw
        refine _root_.PySem.P.truthy_str (by omega) ?_
        have : ((z.length : Int) != 0) = (z.length != 0) := by
          by_cases h0 : z.length = 0
          · simp [h0]
          · have h1 : ((z.length : Int) != 0) = true := by simp; omega
            have h2 : (z.length != 0) = true := by simpa using h0
            rw [h1, h2]
        rw [this]; exact hQ _
    · cases hw
  · split at hw
    · rename_i us hz
      cases hv with
      | tup i rs =>
        rename_i a' vs k
        cases hw
        have hl := rs.length
        have g := r.imm a.X i
        refine truthy_tuple (items := vs.toArray) ⟨_, g, rfl, k, rfl⟩ (by simp; omega) ?_
        rw [isEmpty_len, ← hl]; exact hQ _
    · cases hw
  · split at hw
    · split at hw
      · rename_i i _ us hi hz
        cases hv with
        | ref ha =>
          cases hw
          obtain ⟨vs, k, R1, _, _, g⟩ := r.list_at hi ha
          have hl := R1.length
          refine wpAny_truthy_list (isList_of g) (by simp; omega) ?_
          rw [isEmpty_len, ← hl]; exact hQ _
      · cases hw
    · split at hw
      · rename_i i _ es hi hz
        cases hv with
        | ref ha =>
          cases hw
          obtain ⟨ds, k, R1, nd, _, m, g⟩ := r.dict_at hi ha
          have hl : es.length = ds.length := by
            exact R1.length
          have hk : (kvsOf ds).length = ds.length := by simp [kvsOf]
          refine wpAny_truthy_dict (a.notMods r (List.mem_append.mpr (.inl m))) (dict_of (prog := prog) R1 nd g) (by rw [hk, ← hl]; omega) ?_
          have : (!(kvsOf ds).isEmpty) = (es.length != 0) := by
            rw [hl, ← hk]
            cases kvsOf ds <;> simp
          rw [this]; exact hQ _
      · cases hw
    · split at hw
      · rename_i i _ es hi hz
        cases hv with
        | ref ha =>
          obtain ⟨b', hb, x'⟩ := r.R.2 i _ hi
          cases x'
      · cases hw
    · cases hw
  · cases hw

theorem tup_ok {us : List RV} {vs : List Value} (r : Rel w.params K h₀ L mF led fr H s) (hv : VsRel K led fr us vs) (hl : us.length ≤ sizeLine) (hw : Qr (.tup us) H) (hQ : EPost w.params K h₀ L mF led fr s Qr Q) :
    wpAny (model prog w) A (newTuple vs) Q E s := by
  have hfresh := r.fresh
  simp only [List.map_append, List.mem_append, not_or] at hfresh
  refine newTuple_N r.F r.N (fun h' F' N' => ?_) (by rw [← hv.length]; exact hl)
  refine hQ _ _ led ((s.heap.objs.size, tupO vs 0) :: fr) H _ hw (.tup (.inl (.head _)) (hv.mono (Ext.refl _) fun p h => .tail _ h)) (r.addFr (s' := { s with heap := h' }) F' N' hfresh.1) (Ext.refl _) (fun p h => .tail _ h) ((Sm.refl s).with h' s.toks)
theorem list_ok {us : List RV} {vs : List Value} (r : Rel w.params K h₀ L mF led fr H s) (hv : VsRel K led fr us vs) (hl : us.length ≤ sizeLine) (hw : Qr (.ref H.length) (H ++ [.list us])) (hQ : EPost w.params K h₀ L mF led fr s Qr Q) :
    wpAny (model prog w) A (newList vs) Q E s := by
  have hfresh := r.fresh
  refine newList_N r.F r.N (fun h' F' N' => ?_) (by rw [← hv.length]; exact hl)
  have hE : Ext led (led ++ [[(s.heap.objs.size, lstO vs 0)]]) := adr_snoc _
  refine hQ _ _ (led ++ [[(s.heap.objs.size, lstO vs 0)]]) fr (H ++ [.list us]) _ hw ?_ (r.addOb (s' := { s with heap := h' }) F' N' hfresh (.list (hv.mono hE (Sub.refl _)))) hE (Sub.refl _) ((Sm.refl s).with h' s.toks)
  rw [← r.R.1]; exact .ref (adr_last _ _)

theorem idx_eq {k : Int} {m j : Nat} (h : idxR k m = some j) : 0 ≤ k ∧ k < 2 ^ 62 ∧ j = k.toNat ∧ j < m ∧ seqIndex? k m = some j := by
  unfold idxR at h
  split at h
  · rename_i hk
    cases h
    refine ⟨hk.1, hk.2.2, rfl, by omega, ?_⟩
    unfold seqIndex?
    have h1 : ¬ k < 0 := by omega
    simp only [h1, if_false]
    have : (decide (0 ≤ k) && decide (k < (m : Int))) = true := by simp; omega
    rw [if_pos this]
  · cases h
theorem sub_ok {value slice : Expr} {o i v : RV} {ou iu : Value} (a : Act prog K p loose mg mb A fenv h₀ L n) (r : Rel w.params K h₀ L mF led fr H s) (ho : VRel K led fr o ou) (hi : VRel K led fr i iu)
    (hs : subscripted slice false ou iu = operate [ou, iu] (getItem ou iu))
    (hw : subR H o i = some v) (hq : Qr v H) (hQ : EPost w.params K h₀ L mF led fr s Qr Q) : wpAny (model prog w) A (subscriptTail value slice ou iu) Q E s := by
  unfold subR at hw
  split at hw
  · simp only [Option.bind_eq_some_iff] at hw
    obtain ⟨j, hj, hv⟩ := hw
    obtain ⟨h0, h1, rfl, hlt, hsi⟩ := idx_eq hj
    cases hi
    cases ho with
    | arg im hc hd rs =>
      rename_i a' vs o k
      obtain ⟨u, hu, hr⟩ := rs.get _ _ hv
      have hL : s.heap.IsList a' vs.toArray := ⟨_, r.imm a.X im, hc, _, hd⟩
      exact tail_any hL.typeIs slot_list_getitem.lookup (wpAny_getItem_list hL h0 (by omega) (by simpa using hu) (hQ.same' r hq hr)) hs
  · simp only [Option.bind_eq_some_iff] at hw
    obtain ⟨j, hj, hv⟩ := hw
    obtain ⟨h0, h1, rfl, hlt, hsi⟩ := idx_eq hj
    cases hi
    cases ho with
    | tup im rs =>
      rename_i a' vs k
      obtain ⟨u, hu, hr⟩ := rs.get _ _ hv
      rw [rs.length] at hsi
      exact item_tupleT ⟨_, r.imm a.X im, rfl, k, rfl⟩ (by omega) (by omega) hsi hu (hQ.same' r hq hr) hs
  · cases hw
  · cases ho
  · split at hw
    · rename_i iv _ _ us k hH
      simp only [Option.bind_eq_some_iff] at hw
      obtain ⟨j, hj, hv⟩ := hw
      obtain ⟨h0, h1, rfl, hlt, hsi⟩ := idx_eq hj
      cases hi
      cases ho with
      | ref ha =>
        obtain ⟨vs, k', R1, _, _, g⟩ := r.list_at hH ha
        obtain ⟨u, hu, hr⟩ := R1.get _ _ hv
        have hL := isList_of g
        exact tail_any hL.typeIs slot_list_getitem.lookup (wpAny_getItem_list hL h0 (by omega) (by simpa using hu) (hQ.same' r hq hr)) hs
    · rename_i kk _ iv es hH
      split at hw
      · rename_i hk
        cases kk with
        | str z =>
          cases hi with
          | str _ t =>
            cases ho with
            | ref ha =>
              obtain ⟨ds, k, R1, nd, _, m, g⟩ := r.dict_at hH ha
              have M := (dict_of (prog := prog) R1 nd g).mapOf
              obtain ⟨u, hu, hr⟩ := (R1.get z).1 v hw
              exact tail_any M.typeIs slot_dict_getitem.lookup (wpAny_getItem_of (strKind_is prog w z t) M hu (hQ.same r hq hr _)) hs
        | _ => simp [keyOk] at hk
      · cases hw
    · cases hw
  · cases hw
end
end Mine

namespace Mine
open PySem PySem.W PySem.Calls PyProof.Rows PySem.SeqAt

structure Now (prog : Program) (w : World) (K : Frag) (p : Program) (loose : List Str) (mg mb : Str → Option Value) (n : Nat) (A : Around) (fenv : Env) (h₀ : Heap) (L : Addr) (env : Env) (ns : Ns) (mF mL : Str → Option Value)
    (led : Led) (fr : Frz) (loc : Loc) (H : RH) (s : Shared) : Prop where
  a : Act prog K p loose mg mb A fenv h₀ L n
  e : EnvOk env ns L mF mL fr
  l : LRel K led fr env mL loc
  r : Rel w.params K h₀ L mF led fr H s

/-- what is handed on behind a test -/
def BPost (P : Params) (K : Frag) (h₀ : Heap) (L : Addr) (mF : Str → Option Value) (led : Led) (fr : Frz) (s : Shared) (Qr : PB) (Q : Bool → Shared → Prop) : Prop :=
  ∀ b led' fr' H' s', Qr b H' → Rel P K h₀ L mF led' fr' H' s' → Ext led led' → Sub fr fr' → Sm s s' → Q b s'
/-- what is handed on behind several expressions -/
def LPost (P : Params) (K : Frag) (h₀ : Heap) (L : Addr) (mF : Str → Option Value) (led : Led) (fr : Frz) (s : Shared) (Qr : List RV → RH → Prop) (Q : List Value → Shared → Prop) : Prop :=
  ∀ vs us led' fr' H' s', Qr vs H' → VsRel K led' fr' vs us → Rel P K h₀ L mF led' fr' H' s' → Ext led led' → Sub fr fr' → Sm s s' → Q us s'

section
variable {prog : Program} {w : World} {K : Frag} {p : Program} {loose : List Str} {mg mb : Str → Option Value} {A : Around} {fenv env : Env} {ns : Ns} {h₀ : Heap} {L : Addr} {n : Nat} {mF mL : Str → Option Value}
  {led led' : Led} {fr fr' : Frz} {H H' : RH} {loc : Loc} {s s' : Shared} {E : Value → Shared → Prop} {P : Params} {Qr : PV} {Q : Value → Shared → Prop}

theorem Now.next (N : Now prog w K p loose mg mb n A fenv h₀ L env ns mF mL led fr loc H s) (r : Rel w.params K h₀ L mF led' fr' H' s') (x : Ext led led') (y : Sub fr fr') :
    Now prog w K p loose mg mb n A fenv h₀ L env ns mF mL led' fr' loc H' s' := ⟨N.a, N.e.mono y, N.l.mono x y, r⟩
theorem EPost.after (hQ : EPost P K h₀ L mF led fr s Qr Q) (x : Ext led led') (y : Sub fr fr') (z : Sm s s') : EPost P K h₀ L mF led' fr' s' Qr Q :=
  fun v u led'' fr'' H'' s'' q hv r x' y' z' => hQ v u led'' fr'' H'' s'' q hv r (x.trans x') (y.trans y') (z.trans z')
theorem BPost.after {Qr : PB} {Q : Bool → Shared → Prop} (hQ : BPost P K h₀ L mF led fr s Qr Q) (x : Ext led led') (y : Sub fr fr') (z : Sm s s') : BPost P K h₀ L mF led' fr' s' Qr Q :=
  fun v led'' fr'' H'' s'' q r x' y' z' => hQ v led'' fr'' H'' s'' q r (x.trans x') (y.trans y') (z.trans z')
theorem LPost.after {Qr : List RV → RH → Prop} {Q : List Value → Shared → Prop} (hQ : LPost P K h₀ L mF led fr s Qr Q) (x : Ext led led') (y : Sub fr fr') (z : Sm s s') : LPost P K h₀ L mF led' fr' s' Qr Q :=
  fun v u led'' fr'' H'' s'' q hv r x' y' z' => hQ v u led'' fr'' H'' s'' q hv r (x.trans x') (y.trans y') (z.trans z')
theorem BPost.same {Qr : PB} {Q : Bool → Shared → Prop} (hQ : BPost P K h₀ L mF led fr s Qr Q) {b : Bool} (r : Rel P K h₀ L mF led fr H s) (hw : Qr b H) (t : Nat) : Q b { s with toks := t } :=
  hQ b led fr H _ hw (r.toks t) (Ext.refl _) (Sub.refl _) ((Sm.refl s).with s.heap t)

theorem Act.weak (a : Act prog K p loose mg mb A fenv h₀ L n) : ActK prog K p loose mg mb A fenv h₀ L n 0 :=
  ⟨a.bel, a.frm, a.knd, a.gen, a.cor, a.gl, a.bl, a.X, a.T, a.sr, a.tr, a.hd, by have := a.dep; omega, by have := a.uni; omega⟩
/-- calls of the text's own defs are sound -/
def UOk (prog : Program) (w : World) (K : Frag) (p : Program) (loose : List Str) (mg mb : Str → Option Value) (U : UTy) (n : Nat) : Prop :=
  ∀ {A : Around} {fenv : Env} {h₀ : Heap} {L : Addr} {mF : Str → Option Value} {led : Led} {fr : Frz} {H : RH} {s : Shared} {Qr : PV} {R : Result → Shared → Prop} {d : RFn} {f : Addr} {qual : Str} {args : List RV} {vals : List Value},
    ActK prog K p loose mg mb A fenv h₀ L n 0 → mtFn K f qual d = true → VsRel K led fr args vals → Rel w.params K h₀ L mF led fr H s → U d args H Qr →
    EPost w.params K h₀ L mF led fr s Qr (fun u s' => R (.ok (.ret u)) s') → codeAny (model prog w) A (.call (.ref f) ⟨vals, []⟩) R s

theorem const_ok {c : Const} {v : RV} {k : Nat} {pos : Pos} (hm : mtC c v = true) (r : Rel w.params K h₀ L mF led fr H s) (hw : Qr v H) (hQ : EPost w.params K h₀ L mF led fr s Qr Q) :
    wpAny (model prog w) A (eval (.Constant c k pos) env) Q E s := by
  cases v with
  | none => cases c <;> simp [mtC] at hm; exact wpAny_Constant_none (hQ.same' r hw .none)
  | bool b => cases c <;> simp [mtC] at hm; subst hm; exact wpAny_Constant_bool (hQ.same' r hw (.bool _))
  | int i => cases c <;> simp [mtC] at hm; subst hm; exact wpAny_Constant_int (hQ.same r hw (.int _ _) _)
  | str x => cases c <;> simp [mtC] at hm; subst hm; exact wpAny_Constant_str (hQ.same r hw (.str _ _) _)
  | _ => cases c <;> simp [mtC] at hm

theorem not_starred {e : Expr} {r : RE} (h : mtE ns e r = true) (rest : List Expr) : starEach (e :: rest) env = (false, eval e env) :: starEach rest env := by
  cases mt_of h <;> rfl
theorem starEach_plain : ∀ {es : List Expr} {rs : List RE}, mtEs ns es rs = true → starEach es env = es.map fun e => (false, eval e env)
  | [], _, _ => rfl
  | e :: es, [], h => absurd h Bool.false_ne_true
  | e :: es, r :: rs, h => by
    simp only [mtEs_cons, Bool.and_eq_true] at h
    rw [not_starred h.1, starEach_plain h.2]; rfl
theorem backTo_plain {es : List Expr} {pos : Pos} : backTo pos (es.map fun e => (false, eval e env)) = es.map fun e => (false, eval e env) := by
  unfold backTo
  rw [List.map_map]
  exact List.map_congr_left fun e _ => rfl
theorem no_mark {op : CmpOp} {e : Expr} {r : RE} (h : mtE ns e r = true) : behindInMarks op e = false := by
  cases op <;> cases mt_of h <;> rfl
theorem sub_plain {e : Expr} {r : RE} (h : mtE ns e r = true) (o i : Value) : subscripted e false o i = operate [o, i] (getItem o i) := by
  cases mt_of h <;> rfl

/-- a call, once its callee and its arguments are there -/
theorem callWith_R {es : List Expr} {rs : List RE} {pos : Pos} {fv : Value} {first : List Value} {QL : List Value → Shared → Prop} (hm : mtEs ns es rs = true)
    (hk : ∀ h, K.In h → ∃ k, (k = Keeper.frame ∨ k = Keeper.machine ∨ k = Keeper.boundFrame) ∧ Looks (model prog w) h (keeperOf fv) k)
    (h : wpAny (model prog w) A (spliced (es.map fun e => (false, eval e env))) (fun vs s₁ => K.In s₁.heap ∧ wpAny (model prog w) A (call fv (first ++ vs)) Q E s₁) E s) :
    wpAny (model prog w) A (callWith pos fv first (backTo pos (starEach es env)) []) Q E s := by
  rw [starEach_plain hm, backTo_plain]
  cases es with
  | nil =>
    refine callWith_of (P := K.In) rfl hk ?_
    unfold evalArgs
    show wpAny (model prog w) A (spliced [] >>= _) _ E s
    refine wpAny_bind (wpAny_mono h (fun vs s' h' => ?_) fun _ _ x => x)
    refine wpAny_bind (wpAny_pure ?_)
    refine wpAny_holding ?_
    exact wpAny_bind (wpAny_pure (wpAny_bind (wpAny_pure (wpAny_pure h'))))
  | cons e es =>
    have hp : ((e :: es).map fun e => (false, eval e env)).any (·.1) = false := by
      rw [List.any_map]; simp
    refine callWith_of (P := K.In) (by rw [hp]; rfl) hk (evalArgs_plain ?_)
    exact h
end
end Mine

namespace Mine
open PySem PySem.W PySem.Calls PyProof.Rows PySem.SeqAt

section
variable {prog : Program} {w : World} {K : Frag} {p : Program} {loose : List Str} {mg mb : Str → Option Value} {A : Around} {fenv env : Env} {ns : Ns} {h₀ : Heap} {L : Addr} {n : Nat} {mF mL : Str → Option Value}
  {led led' : Led} {fr fr' : Frz} {H H' : RH} {loc : Loc} {s s' : Shared} {E : Value → Shared → Prop} {P : Params} {Qr : PV} {Q : Value → Shared → Prop}

theorem Rel.grown (r : Rel P K h₀ L mF led fr H s) {h' : Heap} {t : Nat} (hk : ∀ b o, s.heap.get? b = some o → h'.get? b = some o) : Rel P K h₀ L mF led fr H { s with heap := h', toks := t } :=
  ⟨⟨r.F.ns.keeps hk, fun b o e => hk _ _ (r.F.keep b o e), r.F.above⟩, fun q hq => ⟨hk _ _ (r.N q hq).1, (r.N q hq).2⟩, r.D, r.X, r.R⟩
theorem EPost.grown (hQ : EPost P K h₀ L mF led fr s Qr Q) {v : RV} {u : Value} (r : Rel P K h₀ L mF led fr H s) (hw : Qr v H) (hu : VRel K led fr v u) {h' : Heap} {t : Nat} (hk : ∀ b o, s.heap.get? b = some o → h'.get? b = some o) : Q u { s with heap := h', toks := t } :=
  hQ v u led fr H _ hw hu (r.grown hk) (Ext.refl _) (Sub.refl _) ((Sm.refl s).with h' t)

theorem bi_ok {x : String} {args : List RV} {vals : List Value} (a : Act prog K p loose mg mb A fenv h₀ L n) (r : Rel w.params K h₀ L mF led fr H s) (hv : VsRel K led fr args vals) (hw : biR x args H Qr)
    (hQ : EPost w.params K h₀ L mF led fr s Qr Q) : wpAny (model prog w) A (call (.builtin x) vals) Q E s := by
  unfold biR at hw
  split at hw
  · rename_i hx; subst hx
    split at hw
    · rename_i v
      cases hv with | cons hv hn => cases hn with
      | nil =>
        split at hw
        · rename_i k hk
          unfold lenR at hk
          split at hk
          · cases hk
            cases hv with
            | arg i hc hd rs =>
              rename_i vs' o' n'
              have hl := rs.length
              refine len_list (items := vs'.toArray) ⟨_, r.imm a.X i, hc, n', hd⟩ (by simp only [List.size_toArray]; omega) ?_
              have := hQ.same r hw.2 (.int _ (s.toks + 1)) (s.toks + 1 + 1)
              rw [hl] at this; simpa using this
          · cases hk; cases hv; exact _root_.PySem.P.len_str (by omega) (hQ.same r hw.2 (.int _ _) _)
          · cases hk
            cases hv with
            | tup i rs =>
              rename_i vs' n'
              have hl := rs.length
              refine len_tuple (items := vs'.toArray) ⟨_, r.imm a.X i, rfl, n', rfl⟩ (by simp only [List.size_toArray]; omega) ?_
              have := hQ.same r hw.2 (.int _ (s.toks + 1)) (s.toks + 1 + 1)
              rw [hl] at this; simpa using this
          · split at hk
            · rename_i i _ us hi
              cases hk
              cases hv with
              | ref ha =>
                obtain ⟨vs', k', R1, _, _, g⟩ := r.list_at hi ha
                have hl := R1.length
                refine len_list (isList_of g) (by simp only [List.size_toArray]; omega) ?_
                have := hQ.same r hw.2 (.int _ (s.toks + 1)) (s.toks + 1 + 1)
                rw [hl] at this; simpa using this
            · cases hk
            · rename_i i _ us hi
              obtain ⟨b', hb, x'⟩ := r.R.2 i _ hi
              cases x'
            · cases hk
          · cases hk
        · exact hw.elim
    · exact hw.elim
  · split at hw
    · rename_i hx; subst hx
      split at hw
      · cases hv with | cons hv hn => cases hn with
        | nil =>
          cases hv
          refine call_abs_int fun u tk => ?_
          rename_i i _
          have e : (if i < 0 then -i else i) = (i.natAbs : Int) := by split <;> omega
          rw [e]
          exact hQ.same r hw (.int _ _) _
      · exact hw.elim
    · split at hw
      · exact hw.elim
      · split at hw
        · exact hw.elim
        · split at hw
          · rename_i hx; subst hx
            split at hw
            · exact hw.elim
            · cases hv with | cons h1 hn => cases hn with | cons h2 hn => cases hn with
              | nil =>
                cases h1; cases h2
                rename_i x y t t'
                refine max_two_ints a.hd fun h' tk hk => ?_
                have e : (if y > x then Value.int y t' else Value.int x t) = .int (if x < y then y else x) (if x < y then t' else t) := by
                  by_cases h : x < y
                  · simp [h, show y > x from h]
                  · simp [h, show ¬ y > x from h]
                rw [e]
                exact hQ.grown r hw (.int _ _) hk
            · cases hv with | cons h1 hn => cases hn with | cons h2 hn => cases hn with | cons h3 hn => cases hn with
              | nil =>
                cases h1; cases h2; cases h3
                rename_i x y z t t' t''
                refine max_three_ints a.hd fun h' tk hk => ?_
                have e : ∃ t₀, (if y > x then (if z > y then Value.int z t'' else .int y t') else (if z > x then .int z t'' else .int x t)) = .int (if (if x < y then y else x) < z then z else (if x < y then y else x)) t₀ := by
                  by_cases h : x < y
                  · by_cases h2 : y < z
                    · exact ⟨t'', by simp [h, h2]⟩
                    · exact ⟨t', by simp [h, h2]⟩
                  · by_cases h2 : x < z
                    · exact ⟨t'', by simp [h, h2]⟩
                    · exact ⟨t, by simp [h, h2]⟩
                obtain ⟨t₀, e⟩ := e
                rw [e]
                exact hQ.grown r hw (.int _ _) hk
            · exact hw.elim
          · exact hw.elim
end
end Mine

namespace Mine
open PySem PySem.W PySem.Calls PyProof.Rows PySem.SeqAt

section
variable {prog : Program} {w : World} {K : Frag} {G : RProg} {U : UTy} {p : Program} {loose : List Str} {mg mb : Str → Option Value} {A : Around} {fenv env : Env} {ns : Ns} {h₀ : Heap} {L : Addr} {n : Nat} {mF mL : Str → Option Value}
  {led led' : Led} {fr fr' : Frz} {H H' : RH} {loc : Loc} {s s' : Shared} {E : Value → Shared → Prop} {P : Params} {Qr : PV} {Q : Value → Shared → Prop}

/-- an object of several pieces is made -/
theorem Rel.addBl (r : Rel P K h₀ L mF led fr H s) {b : List (Addr × Obj)} {ro : RO} (F' : Fr h₀ L s'.heap mF) (N' : News h₀ L s'.heap (b ++ (led.flatten ++ fr))) (ha : ∀ q ∈ b, q.1 ∉ (led.flatten ++ fr).map (·.1)) (hn : (b.map (·.1)).Nodup)
    (hr : ORel P K (led ++ [b]) fr ro b) : Rel P K h₀ L mF (led ++ [b]) fr (H ++ [ro]) s' := by
  refine ⟨F', ?_, ?_, ?_, ⟨by simp [r.R.1], fun i x e => ?_⟩⟩
  · intro p hp
    simp only [List.flatten_append, List.mem_append, List.flatten_cons, List.flatten_nil, List.append_nil] at hp
    rcases hp with (h | h) | h
    · exact N' p (List.mem_append.mpr (.inr (List.mem_append.mpr (.inl h))))
    · exact N' p (List.mem_append.mpr (.inl h))
    · exact N' p (List.mem_append.mpr (.inr (List.mem_append.mpr (.inr h))))
  · simp only [List.flatten_append, List.flatten_cons, List.flatten_nil, List.append_nil, List.map_append]
    rw [List.nodup_append]
    refine ⟨r.D, hn, ?_⟩
    intro x hx y hy e
    obtain ⟨q, hq, e'⟩ := List.mem_map.mp hy
    have := ha q hq
    simp only [List.map_append, List.mem_append, not_or] at this
    exact this.1 (by rw [e', ← e]; exact hx)
  · intro p hp q
    simp only [List.flatten_append, List.flatten_cons, List.flatten_nil, List.append_nil, List.map_append, List.mem_append] at q
    rcases q with q | q
    · exact r.X p hp q
    · obtain ⟨z, hz, e'⟩ := List.mem_map.mp q
      have := ha z hz
      simp only [List.map_append, List.mem_append, not_or] at this
      exact this.2 (e' ▸ List.mem_map_of_mem hp)
  · by_cases hi : i < H.length
    · rw [List.getElem?_append_left hi] at e
      obtain ⟨b', hb, x'⟩ := r.R.2 i x e
      exact ⟨b', by rw [List.getElem?_append_left (by rw [r.R.1]; exact hi)]; exact hb, x'.mono (adr_snoc _) (Sub.refl _)⟩
    · have hi' : i = H.length := by
        have : i < (H ++ [ro]).length := by
          by_cases h : i < (H ++ [ro]).length
          · exact h
          · rw [List.getElem?_eq_none (by omega)] at e; cases e
        simp at this; omega
      subst hi'
      rw [List.getElem?_append_right (Nat.le_refl _), Nat.sub_self] at e
      cases e
      refine ⟨_, ?_, hr⟩
      rw [← r.R.1, List.getElem?_append_right (Nat.le_refl _), Nat.sub_self]; rfl

theorem Act.make (a : Act prog K p loose mg mb A fenv h₀ L n) (C : Addr) (vals : List Value) : ActK prog K p loose mg mb (A.under (.builtin "type.__call__" ⟨.ref C :: vals, []⟩)) fenv h₀ L n 0 := by
  obtain ⟨A₀, base, outer, hB, hA⟩ := a.bel
  refine ⟨⟨A₀, base, outer, hB, ?_⟩, a.frm, a.knd, a.gen, a.cor, a.gl, a.bl, a.X, a.T, a.sr, a.tr, ?_, ?_, ?_⟩
  · show pushEnvs [] A.frames = _
    rw [hA]; rfl
  · exact a.hd
  · have := a.dep
    show A.depth + 1 + 10 * n + 115 + 0 < _
    omega
  · have := a.uni
    show A.units + 1 + 40 * n + 195 + 0 < _
    omega

theorem new_ok {c : String} {C : Addr} {kl : RCls} {d : RFn} {args : List RV} {vals : List Value} (O : ProgOk K G) (hU : UOk prog w K p loose mg mb U n) (a : Act prog K p loose mg mb A fenv h₀ L n) (r : Rel w.params K h₀ L mF led fr H s)
    (hc : nsIn K mainGlobals (Str.ofString c) = some (some (.ref C))) (hk : G.clss.lookup c = some kl) (hd : kl.ms.lookup "__init__" = some d) (hv : VsRel K led fr args vals)
    (hw : U d (.ref H.length :: args) (H ++ [.inst c []]) fun r H' => r = .none ∧ Qr (.ref H.length) H') (hQ : EPost w.params K h₀ L mF led fr s Qr Q) : wpAny (model prog w) A (call (.ref C) vals) Q E s := by
  obtain ⟨C', hC', k1, k2, k3, _, k8⟩ := O.cl c kl hk
  rw [hc] at hC'
  cases hC'
  obtain ⟨f, f1, f2, f3⟩ := k8 "__init__" d hd
  refine call_cls r.F a.X r.N k1 f1 f2 fun x dx h' F' N' lt1 lt2 => ?_
  have low : ∀ q ∈ (led.flatten ++ fr).map (·.1), q < dx := fun q hq => by
    obtain ⟨z, hz, e⟩ := List.mem_map.mp hq
    rw [← e]; exact lt1 z hz
  have rr : Rel w.params K h₀ L mF (led ++ [[(x, instObj C dx), (dx, dctO [] 0)]]) fr (H ++ [.inst c []]) { s with heap := h' } := by
    refine r.addBl F' N' (fun q hq hm => ?_) ?_ (.inst hc .nil)
    · have := low _ hm
      rcases List.mem_cons.mp hq with rfl | hq
      · exact absurd (Nat.lt_trans this lt2) (Nat.lt_irrefl _)
      · rcases List.mem_cons.mp hq with rfl | hq
        · exact Nat.lt_irrefl _ this
        · cases hq
    · simp only [List.map_cons, List.map_nil, List.nodup_cons, List.mem_singleton, List.not_mem_nil, not_false_eq_true, List.nodup_nil, and_true]
      exact Nat.ne_of_gt lt2
  have hl : H.length = led.length := r.R.1.symm
  have hx : VRel K (led ++ [[(x, instObj C dx), (dx, dctO [] 0)]]) fr (.ref H.length) (.ref x) := .ref (by rw [hl]; exact adr_last _ _)
  refine hU (a.make _ _) f3 (.cons hx (hv.mono (adr_snoc _) (Sub.refl _))) rr hw ?_
  intro v u led' fr' H' s' q hv' r' x' y' z'
  obtain ⟨rfl, q⟩ := q
  cases hv'
  exact ⟨rfl, hQ _ _ led' fr' H' s' q (hx.mono x' y') r' ((adr_snoc _).trans x') y' (Sm.trans ((Sm.refl s).with h' s.toks) z')⟩
end
end Mine

namespace Mine
open PySem PySem.W PySem.Calls PyProof.Rows PySem.SeqAt

section
variable {prog : Program} {w : World} {K : Frag} {G : RProg} {U : UTy} {p : Program} {loose : List Str} {mg mb : Str → Option Value} {A : Around} {fenv env : Env} {ns : Ns} {h₀ : Heap} {L : Addr} {n : Nat} {mF mL : Str → Option Value}
  {led led' : Led} {fr fr' : Frz} {H H' : RH} {loc : Loc} {s s' : Shared} {E : Value → Shared → Prop} {P : Params} {Qr : PV} {Q : Value → Shared → Prop}

theorem ty_ok {x : String} {args : List RV} {vals : List Value} (a : Act prog K p loose mg mb A fenv h₀ L n) (r : Rel w.params K h₀ L mF led fr H s) (hv : VsRel K led fr args vals) (hw : tyR x args H Qr)
    (hQ : EPost w.params K h₀ L mF led fr s Qr Q) : wpAny (model prog w) A (call (.type x) vals) Q E s := by
  exact False.elim hw

theorem mtFn_func {f : Addr} {q : Str} {d : RFn} (h : mtFn K f q d = true) : ∃ c dd fd sl, K.lookup f = some ⟨.type c, dd, .func fd, sl⟩ := by
  unfold mtFn at h
  split at h
  · rename_i e; exact ⟨_, _, _, _, e⟩
  · cases h
theorem keep_fn {f : Addr} {q : Str} {d : RFn} (h : mtFn K f q d = true) : keepIn K (.ref f) = true := by
  obtain ⟨c, dd, fd, sl, e⟩ := mtFn_func h
  unfold keepIn
  dsimp only
  rw [e]

/-- a call, its callee and arguments there -/
theorem call_ok {f : RV} {fv : Value} {args : List RV} {vals : List Value} (O : ProgOk K G) (hU : UOk prog w K p loose mg mb U n) (a : Act prog K p loose mg mb A fenv h₀ L n) (r : Rel w.params K h₀ L mF led fr H s)
    (hf : VRel K led fr f fv) (hv : VsRel K led fr args vals) (hw : callR G U f args H Qr) (hQ : EPost w.params K h₀ L mF led fr s Qr Q) : wpAny (model prog w) A (call fv vals) Q E s := by
  unfold callR at hw
  split at hw
  · split at hw
    · rename_i x _ d hd
      cases hf with
      | fn hx =>
        obtain ⟨f', hf', hm⟩ := O.fn x d hd
        rw [hx] at hf'
        cases hf'
        exact wpAny_call (hU a.weak hm hv r hw hQ)
    · exact hw.elim
  · split at hw
    · rename_i _ c _ d hd
      cases hf with
      | cls hx =>
        cases hk : G.clss.lookup c with
        | none => rw [hk] at hd; cases hd
        | some kl =>
          rw [hk] at hd
          exact new_ok O hU a r hx hk hd hv hw hQ
    · exact hw.elim
  · cases hf; exact bi_ok a r hv hw hQ
  · cases hf; exact ty_ok a r hv hw hQ
  · exact hw.elim
theorem keeper_ok {f : RV} {fv : Value} (O : ProgOk K G) (hf : VRel K led fr f fv) (hw : callable G f = true) :
    ∀ h, K.In h → ∃ k, (k = Keeper.frame ∨ k = Keeper.machine ∨ k = Keeper.boundFrame) ∧ Looks (model prog w) h (keeperOf fv) k := by
  cases hf with
  | fn hx =>
    rename_i x a
    obtain ⟨d, hd⟩ := Option.isSome_iff_exists.mp (show (G.funs.lookup x).isSome = true from hw)
    obtain ⟨f', hf', hm⟩ := O.fn x d hd
    rw [hx] at hf'
    cases hf'
    exact keeps_K (keep_fn hm)
  | cls hx =>
    rename_i c a
    have hw : ((G.clss.lookup c).bind (·.ms.lookup "__init__")).isSome = true := hw
    cases hc : G.clss.lookup c with
    | none => rw [hc] at hw; cases hw
    | some ms =>
      obtain ⟨C, hC, _, _, hk, _⟩ := O.cl c ms hc
      rw [hx] at hC
      cases hC
      exact keeps_K hk
  | bi x => exact fun h X => ⟨.machine, .inr (.inl rfl), Looks.of_pure rfl⟩
  | ty x => exact fun h X => ⟨.machine, .inr (.inl rfl), Looks.of_pure rfl⟩
  | _ => simp [callable] at hw
end
end Mine

namespace Mine
open PySem PySem.W PySem.Calls PyProof.Rows PySem.SeqAt

section
variable (prog : Program) (w : World) (K : Frag) (G : RProg) (U : UTy) (p : Program) (loose : List Str) (mg mb : Str → Option Value) (n : Nat)
/-- an expression is sound -/
def EvOk (e : Expr) (r : RE) : Prop := ∀ {A : Around} {fenv env : Env} {ns : Ns} {h₀ : Heap} {L : Addr} {mF mL : Str → Option Value} {led : Led} {fr : Frz} {H : RH} {loc : Loc} {s : Shared} {E : Value → Shared → Prop} {Qr : PV} {Q : Value → Shared → Prop},
  mtE ns e r = true → Now prog w K p loose mg mb n A fenv h₀ L env ns mF mL led fr loc H s → wpE G U r loc H Qr → EPost w.params K h₀ L mF led fr s Qr Q → wpAny (model prog w) A (eval e env) Q E s
def EvsOk (es : List Expr) (rs : List RE) : Prop := ∀ {A : Around} {fenv env : Env} {ns : Ns} {h₀ : Heap} {L : Addr} {mF mL : Str → Option Value} {led : Led} {fr : Frz} {H : RH} {loc : Loc} {s : Shared} {E : Value → Shared → Prop} {Qr : List RV → RH → Prop} {Q : List Value → Shared → Prop},
  mtEs ns es rs = true → Now prog w K p loose mg mb n A fenv h₀ L env ns mF mL led fr loc H s → wpEs G U rs loc H Qr → LPost w.params K h₀ L mF led fr s Qr Q → wpAny (model prog w) A (spliced (es.map fun e => (false, eval e env))) Q E s
def TsOk (e : Expr) (r : RE) : Prop := ∀ {A : Around} {fenv env : Env} {ns : Ns} {h₀ : Heap} {L : Addr} {mF mL : Str → Option Value} {led : Led} {fr : Frz} {H : RH} {loc : Loc} {s : Shared} {E : Value → Shared → Prop} {Qr : PB} {Q : Bool → Shared → Prop},
  mtE ns e r = true → Now prog w K p loose mg mb n A fenv h₀ L env ns mF mL led fr loc H s → wpT G U r (fun l H' Q' => wpE G U r l H' Q') loc H Qr → BPost w.params K h₀ L mF led fr s Qr Q → wpAny (model prog w) A (isTrue e env (eval e env)) Q E s
def AllOk (es : List Expr) (rs : List RE) : Prop := ∀ {A : Around} {fenv env : Env} {ns : Ns} {h₀ : Heap} {L : Addr} {mF mL : Str → Option Value} {led : Led} {fr : Frz} {H : RH} {loc : Loc} {s : Shared} {E : Value → Shared → Prop} {Qr : PB} {Q : Bool → Shared → Prop} {op : BoolOp},
  mtEs ns es rs = true → Now prog w K p loose mg mb n A fenv h₀ L env ns mF mL led fr loc H s → wpTs G U (op == .And) rs loc H Qr → BPost w.params K h₀ L mF led fr s Qr Q → wpAny (model prog w) A (allTrue op es env) Q E s
def IfsOk (es : List Expr) (rs : List RE) : Prop := ∀ {A : Around} {fenv env : Env} {ns : Ns} {h₀ : Heap} {L : Addr} {mF mL : Str → Option Value} {led : Led} {fr : Frz} {H : RH} {loc : Loc} {s : Shared} {E : Value → Shared → Prop} {Qr : PB} {Q : Bool → Shared → Prop},
  mtEs ns es rs = true → Now prog w K p loose mg mb n A fenv h₀ L env ns mF mL led fr loc H s → wpIfs G U rs loc H Qr → BPost w.params K h₀ L mF led fr s Qr Q →
    wpAny (model prog w) A (forIn es true fun c r => if r = true then do let ok ← isTrue c env (eval c env); pure (ForInStep.yield ok) else pure (ForInStep.yield r)) Q E s
def BoolsOk (es : List Expr) (rs : List RE) : Prop := ∀ {A : Around} {fenv env : Env} {ns : Ns} {h₀ : Heap} {L : Addr} {mF mL : Str → Option Value} {led : Led} {fr : Frz} {H : RH} {loc : Loc} {s : Shared} {E : Value → Shared → Prop} {Qr : PV} {Q : Value → Shared → Prop} {op : BoolOp} {pos : Pos},
  mtEs ns es rs = true → Now prog w K p loose mg mb n A fenv h₀ L env ns mF mL led fr loc H s → wpBool G U (op == .And) rs loc H Qr → EPost w.params K h₀ L mF led fr s Qr Q → wpAny (model prog w) A (boolOp pos op (evalEach es env)) Q E s
def ChOk (es : List Expr) (rs : List RE) : Prop := ∀ {A : Around} {fenv env : Env} {ns : Ns} {h₀ : Heap} {L : Addr} {mF mL : Str → Option Value} {led : Led} {fr : Frz} {H : RH} {loc : Loc} {s : Shared} {E : Value → Shared → Prop} {Qr : PV} {Q : Value → Shared → Prop} {ops : List CmpOp} {pos : Pos} {v : RV} {u : Value},
  mtEs ns es rs = true → Now prog w K p loose mg mb n A fenv h₀ L env ns mF mL led fr loc H s → VRel K led fr v u → wpCmp G U v ops rs loc H Qr → EPost w.params K h₀ L mF led fr s Qr Q → wpAny (model prog w) A (compareChain pos u ops (evalEach es env)) Q E s
def ChTOk (es : List Expr) (rs : List RE) : Prop := ∀ {A : Around} {fenv env : Env} {ns : Ns} {h₀ : Heap} {L : Addr} {mF mL : Str → Option Value} {led : Led} {fr : Frz} {H : RH} {loc : Loc} {s : Shared} {E : Value → Shared → Prop} {Qr : PB} {Q : Bool → Shared → Prop} {ops : List CmpOp} {pos : Pos} {v : RV} {u : Value},
  mtEs ns es rs = true → Now prog w K p loose mg mb n A fenv h₀ L env ns mF mL led fr loc H s → VRel K led fr v u → wpCmpT G U v ops rs loc H Qr → BPost w.params K h₀ L mF led fr s Qr Q → wpAny (model prog w) A (testChain pos u ops (evalEach es env)) Q E s
end

section
variable {prog : Program} {w : World} {K : Frag} {G : RProg} {U : UTy} {p : Program} {loose : List Str} {mg mb : Str → Option Value} {n : Nat}

theorem marked_plain {ns : Ns} : ∀ {es : List Expr} {rs : List RE} (ops : List CmpOp) (ts : List (Sem Value)), mtEs ns es rs = true → markedEach ops es ts = ts
  | [], _, ops, ts, _ => by cases ops with
    | nil => rfl
    | cons o ops => cases ops <;> rfl
  | e :: es, [], ops, ts, h => absurd h Bool.false_ne_true
  | e :: es, r :: rs, ops, ts, h => by
    simp only [mtEs_cons, Bool.and_eq_true] at h
    cases ops with
    | nil => cases es <;> rfl
    | cons o ops =>
      cases ts with
      | nil => cases ops <;> cases es <;> rfl
      | cons t ts =>
        have ih := marked_plain ops ts h.2
        cases ops with
        | nil =>
          cases es with
          | nil =>
            cases ts with
            | nil =>
              show [markedBehindIn o e t] = [t]
              unfold markedBehindIn
              rw [no_mark h.1]
            | cons t' ts => show t :: markedEach [] [] (t' :: ts) = _; rw [ih]
          | cons e' es => show t :: markedEach [] (e' :: es) ts = _; rw [ih]
        | cons o' ops => show t :: markedEach (o' :: ops) es ts = _; rw [ih]

theorem evs_nil : EvsOk prog w K G U p loose mg mb n [] [] := by
  intro A fenv env ns h₀ L mF mL led fr H loc s E Qr Q hm N hw hQ
  exact wpAny_pure (hQ [] [] led fr H s hw .nil N.r (Ext.refl _) (Sub.refl _) (Sm.refl _))
theorem evs_cons {e : Expr} {es : List Expr} {r : RE} {rs : List RE} (h1 : EvOk prog w K G U p loose mg mb n e r) (h2 : EvsOk prog w K G U p loose mg mb n es rs) : EvsOk prog w K G U p loose mg mb n (e :: es) (r :: rs) := by
  intro A fenv env ns h₀ L mF mL led fr H loc s E Qr Q hm N hw hQ
  simp only [mtEs_cons, Bool.and_eq_true] at hm
  refine spliced_cons (h1 hm.1 N hw ?_)
  intro v u led₁ fr₁ H₁ s₁ q hv r x y z
  refine h2 hm.2 (N.next r x y) q ?_
  intro vs us led₂ fr₂ H₂ s₂ q' hvs r' x' y' z'
  exact hQ (v :: vs) (u :: us) led₂ fr₂ H₂ s₂ q' (.cons (hv.mono x' y') hvs) r' (x.trans x') (y.trans y') (z.trans z')

theorem bools_ok {es : List Expr} : ∀ {rs : List RE}, (∀ e ∈ es, ∀ r, EvOk prog w K G U p loose mg mb n e r) → BoolsOk prog w K G U p loose mg mb n es rs := by
  induction es with
  | nil =>
    intro rs ih
    intro A fenv env ns h₀ L mF mL led fr H loc s E Qr Q op pos hm N hw hQ
    cases rs with
    | nil => simp [wpBool] at hw
    | cons r rs => exact absurd hm Bool.false_ne_true
  | cons e es IH =>
    intro rs ih
    cases rs with
    | nil =>
      intro A fenv env ns h₀ L mF mL led fr H loc s E Qr Q op pos hm N hw hQ
      exact absurd hm Bool.false_ne_true
    | cons r rs =>
      intro A fenv env ns h₀ L mF mL led fr H loc s E Qr Q op pos hm N hw hQ
      simp only [mtEs_cons, Bool.and_eq_true] at hm
      simp only [wpBool] at hw
      cases es with
      | nil =>
        cases rs with
        | cons r' rs => exact absurd hm.2 Bool.false_ne_true
        | nil => exact ih e (.head _) r hm.1 N hw hQ
      | cons e' es =>
        cases rs with
        | nil => exact absurd hm.2 Bool.false_ne_true
        | cons r' rs =>
          show wpAny (model prog w) A (do
            let v ← eval e env
            standAt pos
            let t ← holding [v] (truthy v)
            match op, t with
            | .And, false | .Or, true => pure v
            | _, _ => boolOp pos op (evalEach (e' :: es) env)) Q E s
          refine wpAny_bind (ih e (.head _) r hm.1 N hw ?_)
          intro v u led₁ fr₁ H₁ s₁ q hv rr x y z
          refine wpAny_bind (wpAny_standAt ?_)
          try dsimp only at q
          split at q
          · rename_i b hb
            refine wpAny_bind (wpAny_holding (truth_ok N.a rr hv hb fun t => ?_))
            have z' : Sm s { s₁ with toks := t } := z.with s₁.heap t
            have N' := N.next (rr.toks t) x y
            have stop : (if b = (op == .And) then False else True) → wpAny (model prog w) A (pure u) Q E { s₁ with toks := t } := fun hne => by
              have : ¬ b = (op == .And) := fun e => by rw [if_pos e] at hne; exact hne
              rw [if_neg this] at q
              exact wpAny_pure (hQ v u led₁ fr₁ H₁ _ q hv (rr.toks t) x y z')
            have go : b = (op == .And) → wpAny (model prog w) A (boolOp pos op (evalEach (e' :: es) env)) Q E { s₁ with toks := t } := fun e => by
              rw [if_pos e] at q
              exact IH (fun e he => ih e (.tail _ he)) hm.2 N' q (hQ.after x y z')
            cases op <;> cases b <;> dsimp only
            · exact stop (by decide)
            · exact go rfl
            · exact go rfl
            · exact stop (by decide)
          · exact q.elim
  

theorem alls_ok {es : List Expr} : ∀ {rs : List RE}, (∀ e ∈ es, ∀ r, TsOk prog w K G U p loose mg mb n e r) → AllOk prog w K G U p loose mg mb n es rs := by
  induction es with
  | nil =>
    intro rs ih
    intro A fenv env ns h₀ L mF mL led fr H loc s E Qr Q op hm N hw hQ
    cases rs with
    | nil =>
      simp only [wpTs] at hw
      exact wpAny_pure (hQ _ led fr H s hw N.r (Ext.refl _) (Sub.refl _) (Sm.refl _))
    | cons r rs => exact absurd hm Bool.false_ne_true
  | cons e es IH =>
    intro rs ih
    cases rs with
    | nil =>
      intro A fenv env ns h₀ L mF mL led fr H loc s E Qr Q op hm N hw hQ
      exact absurd hm Bool.false_ne_true
    | cons r rs =>
      intro A fenv env ns h₀ L mF mL led fr H loc s E Qr Q op hm N hw hQ
      simp only [mtEs_cons, Bool.and_eq_true] at hm
      simp only [wpTs] at hw
      show wpAny (model prog w) A (isTrue e env (eval e env) >>= fun t => match op, t with
        | .And, false => pure false
        | .Or, true => pure true
        | _, _ => allTrue op es env) Q E s
      refine wpAny_bind (ih e (.head _) r hm.1 N hw ?_)
      intro b led₁ fr₁ H₁ s₁ q rr x y z
      have N' := N.next rr x y
      have go : b = (op == .And) → wpAny (model prog w) A (allTrue op es env) Q E s₁ := fun e => by
        rw [if_pos e] at q
        exact IH (fun e he => ih e (.tail _ he)) hm.2 N' q (hQ.after x y z)
      have stop : ¬ b = (op == .And) → wpAny (model prog w) A (pure b) Q E s₁ := fun e => by
        rw [if_neg e] at q
        exact wpAny_pure (hQ b led₁ fr₁ H₁ _ q rr x y z)
      cases op <;> cases b <;> dsimp only
      · exact stop (by decide)
      · exact go rfl
      · exact go rfl
      · exact stop (by decide)
  

theorem forIn_false {env : Env} (es : List Expr) : (forIn es false fun c r => if r = true then do let ok ← isTrue c env (eval c env); pure (ForInStep.yield ok) else pure (ForInStep.yield r) : Sem Bool) = pure false := by
  induction es with
  | nil => rfl
  | cons e es ih =>
    rw [List.forIn_cons]
    simp only [Bool.false_eq_true, if_false] at ih ⊢
    exact ih
theorem ifs_ok {es : List Expr} : ∀ {rs : List RE}, (∀ e ∈ es, ∀ r, TsOk prog w K G U p loose mg mb n e r) → IfsOk prog w K G U p loose mg mb n es rs := by
  induction es with
  | nil =>
    intro rs ih
    intro A fenv env ns h₀ L mF mL led fr H loc s E Qr Q hm N hw hQ
    cases rs with
    | nil =>
      simp only [wpIfs] at hw
      rw [List.forIn_nil]
      exact wpAny_pure (hQ _ led fr H s hw N.r (Ext.refl _) (Sub.refl _) (Sm.refl _))
    | cons r rs => exact absurd hm Bool.false_ne_true
  | cons e es IH =>
    intro rs ih
    cases rs with
    | nil =>
      intro A fenv env ns h₀ L mF mL led fr H loc s E Qr Q hm N hw hQ
      exact absurd hm Bool.false_ne_true
    | cons r rs =>
      intro A fenv env ns h₀ L mF mL led fr H loc s E Qr Q hm N hw hQ
      simp only [mtEs_cons, Bool.and_eq_true] at hm
      simp only [wpIfs] at hw
      rw [List.forIn_cons]
      simp only [if_true]
      refine wpAny_bind (wpAny_bind (ih e (.head _) r hm.1 N hw ?_))
      intro b led₁ fr₁ H₁ s₁ q rr x y z
      refine wpAny_pure ?_
      dsimp only
      have N' := N.next rr x y
      cases b with
      | true => exact IH (fun e he => ih e (.tail _ he)) hm.2 N' q (hQ.after x y z)
      | false =>
        rw [forIn_false]
        exact wpAny_pure (hQ false led₁ fr₁ H₁ _ q rr x y z)

theorem release_ok {A : Around} {E : Value → Shared → Prop} {s : Shared} {vs keep : List Value} {Q : Unit → Shared → Prop} (h : Q () s) : wpAny (model prog w) A (release vs keep) Q E s := by
  unfold release
  generalize (vs.filter fun | .ref _ => true | _ => false) = l
  have : ∀ l : List Value, wpAny (model prog w) A (release.go keep l) Q E s := by
    intro l
    induction l with
    | nil => exact wpAny_pure h
    | cons v r ih =>
      cases r with
      | nil => exact wpAny_pure h
      | cons v' r => exact wpAny_bind (wpAny_holding (wpAny_point ih))
  exact this l

theorem chs_ok {es : List Expr} : ∀ {rs : List RE}, (∀ e ∈ es, ∀ r, EvOk prog w K G U p loose mg mb n e r) → ChOk prog w K G U p loose mg mb n es rs := by
  induction es with
  | nil =>
    intro rs ih
    intro A fenv env ns h₀ L mF mL led fr H loc s E Qr Q ops pos v u hm N hv hw hQ
    cases rs with
    | nil => cases ops with
      | nil => simp [wpCmp] at hw
      | cons o ops => cases ops <;> simp [wpCmp] at hw
    | cons r rs => exact absurd hm Bool.false_ne_true
  | cons e es IH =>
    intro rs ih
    cases rs with
    | nil =>
      intro A fenv env ns h₀ L mF mL led fr H loc s E Qr Q ops pos v u hm N hv hw hQ
      exact absurd hm Bool.false_ne_true
    | cons r rs =>
      intro A fenv env ns h₀ L mF mL led fr H loc s E Qr Q ops pos v u hm N hv hw hQ
      simp only [mtEs_cons, Bool.and_eq_true] at hm
      cases ops with
      | nil => simp [wpCmp] at hw
      | cons o ops =>
        have many : (∀ (h : wpE G U r loc H fun u H₁ => match cmpP H₁ o v u with
              | some true => wpCmp G U u ops rs loc H₁ Qr
              | some false => Qr (.bool false) H₁
              | none => False), wpAny (model prog w) A (do
            let rv ← holding [u] (eval e env)
            standAt pos
            let c ← holding [u, rv] (compareOp o u rv)
            release [u, rv] [c]
            if ← holding [c, rv] (truthy c) then compareChain pos rv ops (evalEach es env) else pure c) Q E s) := fun h => by
          refine wpAny_bind (wpAny_holding (ih e (.head _) r hm.1 N h ?_))
          intro y uy led₁ fr₁ H₁ s₁ q hy rr x₁ y₁ z₁
          refine wpAny_bind (wpAny_standAt ?_)
          try dsimp only at q
          have hv' := hv.mono x₁ y₁
          split at q
          · rename_i hc
            refine wpAny_bind (wpAny_holding (cmp_ok N.a rr hv' hy hc fun t => ?_))
            refine wpAny_bind (release_ok ?_)
            refine wpAny_bind (wpAny_holding (wpAny_truthy_bool ?_))
            exact IH (fun e he => ih e (.tail _ he)) hm.2 (N.next (rr.toks t) x₁ y₁) hy q (hQ.after x₁ y₁ (z₁.with s₁.heap t))
          · rename_i hc
            refine wpAny_bind (wpAny_holding (cmp_ok N.a rr hv' hy hc fun t => ?_))
            refine wpAny_bind (release_ok ?_)
            refine wpAny_bind (wpAny_holding (wpAny_truthy_bool ?_))
            exact wpAny_pure (hQ _ _ led₁ fr₁ H₁ _ q (.bool _) (rr.toks t) x₁ y₁ (z₁.with s₁.heap t))
          · exact q.elim
        cases ops with
        | nil =>
          cases rs with
          | nil =>
            cases es with
            | cons e' es => exact absurd hm.2 Bool.false_ne_true
            | nil =>
              simp only [wpCmp] at hw
              refine wpAny_bind (wpAny_holding (ih e (.head _) r hm.1 N hw ?_))
              intro y uy led₁ fr₁ H₁ s₁ q hy rr x₁ y₁ z₁
              refine wpAny_bind (wpAny_standAt (wpAny_operate' ?_))
              try dsimp only at q
              split at q
              · rename_i b hc
                exact cmp_ok N.a rr (hv.mono x₁ y₁) hy hc fun t => hQ _ _ led₁ fr₁ H₁ _ q (.bool _) (rr.toks t) x₁ y₁ (z₁.with s₁.heap t)
              · exact q.elim
          | cons r' rs =>
            cases es with
            | nil => exact absurd hm.2 Bool.false_ne_true
            | cons e' es =>
              simp only [wpCmp] at hw
              exact many hw
        | cons o' ops =>
          simp only [wpCmp] at hw
          exact many hw
theorem chts_ok {es : List Expr} : ∀ {rs : List RE}, (∀ e ∈ es, ∀ r, EvOk prog w K G U p loose mg mb n e r) → ChTOk prog w K G U p loose mg mb n es rs := by
  induction es with
  | nil =>
    intro rs ih
    intro A fenv env ns h₀ L mF mL led fr H loc s E Qr Q ops pos v u hm N hv hw hQ
    cases rs with
    | nil => cases ops with
      | nil => simp [wpCmpT] at hw
      | cons o ops => cases ops <;> simp [wpCmpT] at hw
    | cons r rs => exact absurd hm Bool.false_ne_true
  | cons e es IH =>
    intro rs ih
    cases rs with
    | nil =>
      intro A fenv env ns h₀ L mF mL led fr H loc s E Qr Q ops pos v u hm N hv hw hQ
      exact absurd hm Bool.false_ne_true
    | cons r rs =>
      intro A fenv env ns h₀ L mF mL led fr H loc s E Qr Q ops pos v u hm N hv hw hQ
      simp only [mtEs_cons, Bool.and_eq_true] at hm
      cases ops with
      | nil => simp [wpCmpT] at hw
      | cons o ops =>
        have many : (∀ (h : wpE G U r loc H fun u H₁ => match cmpP H₁ o v u with
              | some true => wpCmpT G U u ops rs loc H₁ Qr
              | some false => Qr false H₁
              | none => False), wpAny (model prog w) A (do
            let rv ← holding [u] (eval e env)
            standAt pos
            let c ← holding [u, rv] (compareOp o u rv)
            release [u, rv] [c]
            if ← holding [c, rv] (truthy c) then testChain pos rv ops (evalEach es env) else pure false) Q E s) := fun h => by
          refine wpAny_bind (wpAny_holding (ih e (.head _) r hm.1 N h ?_))
          intro y uy led₁ fr₁ H₁ s₁ q hy rr x₁ y₁ z₁
          refine wpAny_bind (wpAny_standAt ?_)
          try dsimp only at q
          have hv' := hv.mono x₁ y₁
          split at q
          · rename_i hc
            refine wpAny_bind (wpAny_holding (cmp_ok N.a rr hv' hy hc fun t => ?_))
            refine wpAny_bind (release_ok ?_)
            refine wpAny_bind (wpAny_holding (wpAny_truthy_bool ?_))
            exact IH (fun e he => ih e (.tail _ he)) hm.2 (N.next (rr.toks t) x₁ y₁) hy q (hQ.after x₁ y₁ (z₁.with s₁.heap t))
          · rename_i hc
            refine wpAny_bind (wpAny_holding (cmp_ok N.a rr hv' hy hc fun t => ?_))
            refine wpAny_bind (release_ok ?_)
            refine wpAny_bind (wpAny_holding (wpAny_truthy_bool ?_))
            exact wpAny_pure (hQ _ led₁ fr₁ H₁ _ q (rr.toks t) x₁ y₁ (z₁.with s₁.heap t))
          · exact q.elim
        cases ops with
        | nil =>
          cases rs with
          | nil =>
            cases es with
            | cons e' es => exact absurd hm.2 Bool.false_ne_true
            | nil =>
              simp only [wpCmpT] at hw
              refine wpAny_bind (wpAny_holding (ih e (.head _) r hm.1 N hw ?_))
              intro y uy led₁ fr₁ H₁ s₁ q hy rr x₁ y₁ z₁
              refine wpAny_bind (wpAny_standAt ?_)
              try dsimp only at q
              split at q
              · rename_i b hc
                refine wpAny_bind (wpAny_operate' (cmp_ok N.a rr (hv.mono x₁ y₁) hy hc fun t => ?_))
                exact wpAny_holding (wpAny_truthy_bool (hQ _ led₁ fr₁ H₁ _ q (rr.toks t) x₁ y₁ (z₁.with s₁.heap t)))
              · exact q.elim
          | cons r' rs =>
            cases es with
            | nil => exact absurd hm.2 Bool.false_ne_true
            | cons e' es =>
              simp only [wpCmpT] at hw
              exact many hw
        | cons o' ops =>
          simp only [wpCmpT] at hw
          exact many hw

end
end Mine

namespace Mine
open PySem PySem.W PySem.Calls PyProof.Rows PySem.SeqAt

section
variable {prog : Program} {w : World} {K : Frag} {G : RProg} {U : UTy} {p : Program} {loose : List Str} {mg mb : Str → Option Value} {n : Nat}

theorem ev_bin {l r : Expr} {a b : RE} {op : Operator} {pos : Pos} (h1 : EvOk prog w K G U p loose mg mb n l a) (h2 : EvOk prog w K G U p loose mg mb n r b) : EvOk prog w K G U p loose mg mb n (.BinOp l op r pos) (.bin op a b) := by
  intro A fenv env ns h₀ L mF mL led fr H loc s E Qr Q hm N hw hQ
  simp only [mtE_const, mtE_loc, mtE_glb, mtE_boolop, mtE_bin, mtE_not, mtE_neg, mtE_cond, mtE_list, mtE_tup, mtE_cmp, mtE_sub, Bool.and_eq_true] at hm
  simp only [wpE] at hw
  refine wpAny_BinOp (h1 hm.1.2 N hw ?_)
  intro x ux led₁ fr₁ H₁ s₁ q hx rr x₁ y₁ z₁
  refine h2 hm.2 (N.next rr x₁ y₁) q ?_
  intro y uy led₂ fr₂ H₂ s₂ q' hy rr' x₂ y₂ z₂
  exact bin_ok N.a rr' (hx.mono x₂ y₂) hy q' (hQ.after (x₁.trans x₂) (y₁.trans y₂) (z₁.trans z₂))
theorem ev_not {x : Expr} {a : RE} {pos : Pos} (h1 : EvOk prog w K G U p loose mg mb n x a) : EvOk prog w K G U p loose mg mb n (.UnaryOp .Not x pos) (.not a) := by
  intro A fenv env ns h₀ L mF mL led fr H loc s E Qr Q hm N hw hQ
  simp only [mtE_const, mtE_loc, mtE_glb, mtE_boolop, mtE_bin, mtE_not, mtE_neg, mtE_cond, mtE_list, mtE_tup, mtE_cmp, mtE_sub] at hm
  simp only [wpE] at hw
  show wpAny (model prog w) A (eval x env >>= fun v => standAt pos >>= fun _ => holding [v] (unaryOp .Not v)) Q E s
  refine wpAny_bind (h1 hm N hw ?_)
  intro v u led₁ fr₁ H₁ s₁ q hv rr x₁ y₁ z₁
  refine wpAny_bind (wpAny_standAt (wpAny_holding (not_of ?_)))
  try dsimp only at q
  split at q
  · rename_i b hb
    exact truth_ok N.a rr hv hb fun t => hQ _ _ led₁ fr₁ H₁ _ q (.bool _) (rr.toks t) x₁ y₁ (z₁.with s₁.heap t)
  · exact q.elim
theorem ev_neg {x : Expr} {a : RE} {pos : Pos} (h1 : EvOk prog w K G U p loose mg mb n x a) : EvOk prog w K G U p loose mg mb n (.UnaryOp .USub x pos) (.neg a) := by
  intro A fenv env ns h₀ L mF mL led fr H loc s E Qr Q hm N hw hQ
  simp only [mtE_const, mtE_loc, mtE_glb, mtE_boolop, mtE_bin, mtE_not, mtE_neg, mtE_cond, mtE_list, mtE_tup, mtE_cmp, mtE_sub] at hm
  simp only [wpE] at hw
  show wpAny (model prog w) A (eval x env >>= fun v => standAt pos >>= fun _ => holding [v] (unaryOp .USub v)) Q E s
  refine wpAny_bind (h1 hm N hw ?_)
  intro v u led₁ fr₁ H₁ s₁ q hv rr x₁ y₁ z₁
  refine wpAny_bind (wpAny_standAt (wpAny_holding ?_))
  try dsimp only at q
  split at q
  · cases hv
    exact _root_.PySem.P.neg_int (hQ _ _ led₁ fr₁ H₁ _ q (.int _ _) (rr.toks _) x₁ y₁ (z₁.with s₁.heap _))
  · exact q.elim
theorem ev_cond {t b o : Expr} {t' b' o' : RE} {pos : Pos} (h0 : TsOk prog w K G U p loose mg mb n t t') (h1 : EvOk prog w K G U p loose mg mb n b b') (h2 : EvOk prog w K G U p loose mg mb n o o') :
    EvOk prog w K G U p loose mg mb n (.IfExp t b o pos) (.cond t' b' o') := by
  intro A fenv env ns h₀ L mF mL led fr H loc s E Qr Q hm N hw hQ
  simp only [mtE_const, mtE_loc, mtE_glb, mtE_boolop, mtE_bin, mtE_not, mtE_neg, mtE_cond, mtE_list, mtE_tup, mtE_cmp, mtE_sub, Bool.and_eq_true] at hm
  simp only [wpE] at hw
  rw [eval_IfExp]
  refine wpAny_bind (h0 hm.1.1 N hw ?_)
  intro c led₁ fr₁ H₁ s₁ q rr x₁ y₁ z₁
  cases c with
  | true => exact h1 hm.1.2 (N.next rr x₁ y₁) q (hQ.after x₁ y₁ z₁)
  | false => exact h2 hm.2 (N.next rr x₁ y₁) q (hQ.after x₁ y₁ z₁)
theorem ev_list {es : List Expr} {rs : List RE} {pos : Pos} (h : EvsOk prog w K G U p loose mg mb n es rs) : EvOk prog w K G U p loose mg mb n (.List es pos) (.list rs) := by
  intro A fenv env ns h₀ L mF mL led fr H loc s E Qr Q hm N hw hQ
  simp only [mtE_const, mtE_loc, mtE_glb, mtE_boolop, mtE_bin, mtE_not, mtE_neg, mtE_cond, mtE_list, mtE_tup, mtE_cmp, mtE_sub] at hm
  simp only [wpE] at hw
  refine List_ ?_
  rw [starEach_plain hm, backTo_plain]
  refine h hm N hw ?_
  intro vs us led₁ fr₁ H₁ s₁ q hv rr x₁ y₁ z₁
  exact list_ok rr hv q.1 q.2 (hQ.after x₁ y₁ z₁)
theorem ev_tup {es : List Expr} {rs : List RE} {k : Nat} {pos : Pos} (h : EvsOk prog w K G U p loose mg mb n es rs) : EvOk prog w K G U p loose mg mb n (.Tuple es k pos) (.tup rs) := by
  intro A fenv env ns h₀ L mF mL led fr H loc s E Qr Q hm N hw hQ
  simp only [mtE_const, mtE_loc, mtE_glb, mtE_boolop, mtE_bin, mtE_not, mtE_neg, mtE_cond, mtE_list, mtE_tup, mtE_cmp, mtE_sub] at hm
  simp only [wpE] at hw
  refine Tuple_ ?_
  rw [starEach_plain hm, backTo_plain]
  refine h hm N hw ?_
  intro vs us led₁ fr₁ H₁ s₁ q hv rr x₁ y₁ z₁
  exact tup_ok rr hv q.1 q.2 (hQ.after x₁ y₁ z₁)
theorem ev_cmp {a : Expr} {a' : RE} {ops ops' : List CmpOp} {es : List Expr} {rs : List RE} {pos : Pos} (h : EvOk prog w K G U p loose mg mb n a a') (h' : ChOk prog w K G U p loose mg mb n es rs) :
    EvOk prog w K G U p loose mg mb n (.Compare a ops es pos) (.cmp a' ops' rs) := by
  intro A fenv env ns h₀ L mF mL led fr H loc s E Qr Q hm N hw hQ
  simp only [mtE_const, mtE_loc, mtE_glb, mtE_boolop, mtE_bin, mtE_not, mtE_neg, mtE_cond, mtE_list, mtE_tup, mtE_cmp, mtE_sub, Bool.and_eq_true] at hm
  simp only [wpE] at hw
  obtain ⟨⟨⟨⟨ho, _⟩, _⟩, ha⟩, hes⟩ := hm
  have ho : ops = ops' := eq_of_beq ho
  subst ho
  show wpAny (model prog w) A (eval a env >>= fun v => compareChain pos v ops (markedEach ops es (evalEach es env))) Q E s
  rw [marked_plain ops _ hes]
  refine wpAny_bind (h ha N hw ?_)
  intro v u led₁ fr₁ H₁ s₁ q hv rr x₁ y₁ z₁
  exact h' hes (N.next rr x₁ y₁) hv q (hQ.after x₁ y₁ z₁)
theorem ev_sub {o i : Expr} {o' i' : RE} {pos : Pos} (h1 : EvOk prog w K G U p loose mg mb n o o') (h2 : EvOk prog w K G U p loose mg mb n i i') : EvOk prog w K G U p loose mg mb n (.Subscript o i pos) (.sub o' i') := by
  intro A fenv env ns h₀ L mF mL led fr H loc s E Qr Q hm N hw hQ
  simp only [mtE_const, mtE_loc, mtE_glb, mtE_boolop, mtE_bin, mtE_not, mtE_neg, mtE_cond, mtE_list, mtE_tup, mtE_cmp, mtE_sub, Bool.and_eq_true] at hm
  simp only [wpE] at hw
  refine Subscript_ (h1 hm.1 N hw ?_)
  intro x ux led₁ fr₁ H₁ s₁ q hx rr x₁ y₁ z₁
  refine h2 hm.2 (N.next rr x₁ y₁) q ?_
  intro y uy led₂ fr₂ H₂ s₂ q' hy rr' x₂ y₂ z₂
  try dsimp only at q'
  split at q'
  · rename_i v hv
    exact sub_ok N.a rr' (hx.mono x₂ y₂) hy (sub_plain hm.2 _ _) hv q' (hQ.after (x₁.trans x₂) (y₁.trans y₂) (z₁.trans z₂))
  · exact q'.elim
theorem ev_call {id : Str} {np pos : Pos} {args : List Expr} {f' : RE} {rs : List RE} (O : ProgOk K G) (hU : UOk prog w K p loose mg mb U n) (h1 : EvOk prog w K G U p loose mg mb n (.Name id np) f') (h2 : EvsOk prog w K G U p loose mg mb n args rs) :
    EvOk prog w K G U p loose mg mb n (.Call (.Name id np) args [] pos) (.call f' rs) := by
  intro A fenv env ns h₀ L mF mL led fr H loc s E Qr Q hm N hw hQ
  have hm' : mtE ns (.Name id np) f' = true ∧ mtEs ns args rs = true := by
    simpa only [mtE_call, Bool.and_eq_true] using hm
  simp only [wpE] at hw
  rw [arm_eval_Call_Name']
  refine wpAny_bind (h1 hm'.1 N hw ?_)
  intro f fv led₁ fr₁ H₁ s₁ q hf rr x₁ y₁ z₁
  refine callWith_R (QL := fun _ _ => True) hm'.2 (keeper_ok O hf q.1) ?_
  refine h2 hm'.2 (N.next rr x₁ y₁) q.2 ?_
  intro vs us led₂ fr₂ H₂ s₂ q' hv rr' x₂ y₂ z₂
  exact ⟨N.a.in rr', call_ok O hU N.a rr' (hf.mono x₂ y₂) hv q' (hQ.after (x₁.trans x₂) (y₁.trans y₂) (z₁.trans z₂))⟩

theorem ts_not {x : Expr} {a : RE} {pos : Pos} (h1 : TsOk prog w K G U p loose mg mb n x a) : TsOk prog w K G U p loose mg mb n (.UnaryOp .Not x pos) (.not a) := by
  intro A fenv env ns h₀ L mF mL led fr H loc s E Qr Q hm N hw hQ
  simp only [mtE_const, mtE_loc, mtE_glb, mtE_boolop, mtE_bin, mtE_not, mtE_neg, mtE_cond, mtE_list, mtE_tup, mtE_cmp, mtE_sub] at hm
  simp only [wpT] at hw
  refine isTrue_not (h1 hm N hw ?_)
  intro b led₁ fr₁ H₁ s₁ q rr x₁ y₁ z₁
  exact hQ _ led₁ fr₁ H₁ s₁ q rr x₁ y₁ z₁
theorem ts_bool {es : List Expr} {rs : List RE} {op : BoolOp} {b : Bool} {pos : Pos} (h : AllOk prog w K G U p loose mg mb n es rs) : TsOk prog w K G U p loose mg mb n (.BoolOp op es pos) (.boolop b rs) := by
  intro A fenv env ns h₀ L mF mL led fr H loc s E Qr Q hm N hw hQ
  simp only [mtE_const, mtE_loc, mtE_glb, mtE_boolop, mtE_bin, mtE_not, mtE_neg, mtE_cond, mtE_list, mtE_tup, mtE_cmp, mtE_sub, Bool.and_eq_true] at hm
  simp only [wpT] at hw
  rw [arm_isTrue_BoolOp]
  have hb : (op == .And) = b := eq_of_beq hm.1
  rw [← hb] at hw
  exact h hm.2 N hw hQ
theorem ts_cond {t b o : Expr} {t' b' o' : RE} {pos : Pos} (h0 : TsOk prog w K G U p loose mg mb n t t') (h1 : TsOk prog w K G U p loose mg mb n b b') (h2 : TsOk prog w K G U p loose mg mb n o o') :
    TsOk prog w K G U p loose mg mb n (.IfExp t b o pos) (.cond t' b' o') := by
  intro A fenv env ns h₀ L mF mL led fr H loc s E Qr Q hm N hw hQ
  simp only [mtE_const, mtE_loc, mtE_glb, mtE_boolop, mtE_bin, mtE_not, mtE_neg, mtE_cond, mtE_list, mtE_tup, mtE_cmp, mtE_sub, Bool.and_eq_true] at hm
  simp only [wpT] at hw
  rw [arm_isTrue_IfExp]
  refine wpAny_bind (h0 hm.1.1 N hw ?_)
  intro c led₁ fr₁ H₁ s₁ q rr x₁ y₁ z₁
  cases c with
  | true => exact h1 hm.1.2 (N.next rr x₁ y₁) q (hQ.after x₁ y₁ z₁)
  | false => exact h2 hm.2 (N.next rr x₁ y₁) q (hQ.after x₁ y₁ z₁)
theorem ts_cmp {a : Expr} {a' : RE} {ops ops' : List CmpOp} {es : List Expr} {rs : List RE} {pos : Pos} (h : EvOk prog w K G U p loose mg mb n a a') (h' : ChTOk prog w K G U p loose mg mb n es rs) :
    TsOk prog w K G U p loose mg mb n (.Compare a ops es pos) (.cmp a' ops' rs) := by
  intro A fenv env ns h₀ L mF mL led fr H loc s E Qr Q hm N hw hQ
  simp only [mtE_const, mtE_loc, mtE_glb, mtE_boolop, mtE_bin, mtE_not, mtE_neg, mtE_cond, mtE_list, mtE_tup, mtE_cmp, mtE_sub, Bool.and_eq_true] at hm
  simp only [wpT] at hw
  obtain ⟨⟨⟨⟨ho, _⟩, _⟩, ha⟩, hes⟩ := hm
  have ho : ops = ops' := eq_of_beq ho
  subst ho
  rw [arm_isTrue_Compare, marked_plain ops _ hes]
  refine wpAny_bind (h ha N hw ?_)
  intro v u led₁ fr₁ H₁ s₁ q hv rr x₁ y₁ z₁
  exact h' hes (N.next rr x₁ y₁) hv q (hQ.after x₁ y₁ z₁)
theorem ts_plain {e : Expr} {r : RE} (h : EvOk prog w K G U p loose mg mb n e r) (hr : ∀ whole loc H Q, wpT G U r whole loc H Q = whole loc H fun v H₁ => match truthR H₁ v with | some b => Q b H₁ | none => False)
    (he : ∀ env whole, isTrue e env whole = (do let v ← whole; standAt e.pos; holding [v] (truthy v))) : TsOk prog w K G U p loose mg mb n e r := by
  intro A fenv env ns h₀ L mF mL led fr H loc s E Qr Q hm N hw hQ
  rw [hr] at hw
  rw [he]
  refine wpAny_bind (h hm N hw ?_)
  intro v u led₁ fr₁ H₁ s₁ q hv rr x₁ y₁ z₁
  refine wpAny_bind (wpAny_standAt (wpAny_holding ?_))
  try dsimp only at q
  split at q
  · rename_i b hb
    exact truth_ok N.a rr hv hb fun t => hQ _ led₁ fr₁ H₁ _ q (rr.toks t) x₁ y₁ (z₁.with s₁.heap t)
  · exact q.elim
end
end Mine

namespace Mine
open PySem PySem.W PySem.Calls PyProof.Rows PySem.SeqAt

theorem chars_inj : ∀ (l l' : List Char), l.map Char.toNat = l'.map Char.toNat → l = l'
  | [], [], _ => rfl
  | [], _ :: _, h => by simp at h
  | _ :: _, [], h => by simp at h
  | a :: l, b :: l', h => by
    simp only [List.map_cons, List.cons.injEq] at h
    have : a = b := Char.ext (UInt32.toNat_inj.mp h.1)
    rw [this, chars_inj l l' h.2]
theorem ofString_inj {a b : String} (h : Str.ofString a = Str.ofString b) : a = b := by
  rw [Str.ofString_eq_toList, Str.ofString_eq_toList] at h
  have h1 : (a.toList.map Char.toNat) = (b.toList.map Char.toNat) := by
    have := congrArg Str.cps h
    simpa using this
  exact String.toList_injective (chars_inj _ _ h1)
theorem attrBase {o : Expr} {x : Str} {env : Env} {whole : Sem Value} (h : noCall0 o = true) : attributeBase o x env whole = whole := by
  unfold attributeBase
  split
  · simp [noCall0] at h
  · rfl

section
variable {P : Params} {K : Frag} {h₀ : Heap} {L : Addr} {mF : Str → Option Value} {led : Led} {fr : Frz} {H : RH} {s : Shared}

theorem upd_mid {d : Addr} {o o' : Obj} : ∀ {l₁ l₂ : List (Addr × Obj)}, (∀ p ∈ l₁, p.1 ≠ d) → (∀ p ∈ l₂, p.1 ≠ d) → Upd d o o' (l₁ ++ (d, o) :: l₂) (l₁ ++ (d, o') :: l₂)
  | [], _, _, h => .head h
  | p :: l₁, _, h, h' => .tail (h p (.head _)) (upd_mid (fun q hq => h q (.tail _ hq)) h')
theorem led_split {i : Nat} {b : List (Addr × Obj)} (h : led[i]? = some b) : ∃ l₁ l₂, led = l₁ ++ b :: l₂ ∧ l₁.length = i ∧ ∀ b', led.set i b' = l₁ ++ b' :: l₂ := by
  induction led generalizing i with
  | nil => simp at h
  | cons c led ih =>
    cases i with
    | zero => simp at h; subst h; exact ⟨[], led, rfl, rfl, fun b' => rfl⟩
    | succ i =>
      simp at h
      obtain ⟨l₁, l₂, e, hl, hs⟩ := ih h
      exact ⟨c :: l₁, l₂, by rw [e]; rfl, by simp [hl], fun b' => by rw [List.set_cons_succ, hs]; rfl⟩

/-- an object is changed -/
theorem Rel.setOb {i : Nat} {pre post : List (Addr × Obj)} {d : Addr} {o o' : Obj} (r : Rel P K h₀ L mF led fr H s) (hb : led[i]? = some (pre ++ (d, o) :: post)) :
    Upd d o o' (led.flatten ++ fr) ((led.set i (pre ++ (d, o') :: post)).flatten ++ fr) ∧ Ext led (led.set i (pre ++ (d, o') :: post)) ∧ ((led.set i (pre ++ (d, o') :: post))[i]? = some (pre ++ (d, o') :: post)) ∧
      ∀ (ro' : RO) (s' : Shared), Fr h₀ L s'.heap mF → News h₀ L s'.heap ((led.set i (pre ++ (d, o') :: post)).flatten ++ fr) → ORel P K (led.set i (pre ++ (d, o') :: post)) fr ro' (pre ++ (d, o') :: post) →
        Rel P K h₀ L mF (led.set i (pre ++ (d, o') :: post)) fr (H.set i ro') s' := by
  obtain ⟨l₁, l₂, e, hl, hs⟩ := led_split hb
  have hx : Ext led (led.set i (pre ++ (d, o') :: post)) := fun j a ha => by
    unfold adr at ha ⊢
    by_cases hj : j = i
    · subst hj
      rw [hb] at ha
      have hlt : j < led.length := by
        by_cases h : j < led.length
        · exact h
        · rw [List.getElem?_eq_none (by omega)] at hb; cases hb
      rw [List.getElem?_set_self hlt]
      cases pre with
      | nil => exact ha
      | cons q pre => exact ha
    · rw [List.getElem?_set_ne (fun h => hj h.symm)]; exact ha
  have hD := r.D
  have hmap : ((led.set i (pre ++ (d, o') :: post)).flatten).map (·.1) = led.flatten.map (·.1) := by
    rw [hs, e]; simp
  have ne1 : ∀ p ∈ l₁.flatten ++ pre, p.1 ≠ d := fun p hp q => by
    rw [e] at hD
    simp only [List.flatten_append, List.flatten_cons, List.map_append, List.map_cons, List.append_assoc] at hD
    rw [← List.append_assoc, List.nodup_append] at hD
    refine hD.2.2 p.1 ?_ d ?_ q
    · rw [← List.map_append]; exact List.mem_map_of_mem hp
    · simp
  have ne2 : ∀ p ∈ post ++ (l₂.flatten ++ fr), p.1 ≠ d := fun p hp q => by
    rcases List.mem_append.mp hp with h | h
    · rw [e] at hD
      simp only [List.flatten_append, List.flatten_cons, List.map_append, List.map_cons, List.append_assoc] at hD
      have h2 := (List.nodup_append.mp (List.nodup_append.mp hD).2.1).2.1
      rw [List.cons_append, List.nodup_cons] at h2
      exact h2.1 (List.mem_append.mpr (.inl (q ▸ List.mem_map_of_mem h)))
    · rcases List.mem_append.mp h with h | h
      · rw [e] at hD
        simp only [List.flatten_append, List.flatten_cons, List.map_append, List.map_cons, List.append_assoc] at hD
        have h2 := (List.nodup_append.mp (List.nodup_append.mp hD).2.1).2.1
        rw [List.cons_append, List.nodup_cons] at h2
        exact h2.1 (List.mem_append.mpr (.inr (q ▸ List.mem_map_of_mem h)))
      · refine r.X p h ?_
        rw [q, e]; simp
  refine ⟨?_, hx, ?_, ?_⟩
  · have u := upd_mid (d := d) (o := o) (o' := o') ne1 ne2
    have e1 : led.flatten ++ fr = (l₁.flatten ++ pre) ++ (d, o) :: (post ++ (l₂.flatten ++ fr)) := by rw [e]; simp
    have e2 : (led.set i (pre ++ (d, o') :: post)).flatten ++ fr = (l₁.flatten ++ pre) ++ (d, o') :: (post ++ (l₂.flatten ++ fr)) := by rw [hs]; simp
    rw [e1, e2]; exact u
  · have hlt : i < led.length := by
      by_cases h : i < led.length
      · exact h
      · rw [List.getElem?_eq_none (by omega)] at hb; cases hb
    rw [List.getElem?_set_self hlt]
  · intro ro' s' F' N' hr
    have hlt : i < led.length := by
      by_cases h : i < led.length
      · exact h
      · rw [List.getElem?_eq_none (by omega)] at hb; cases hb
    refine ⟨F', N', by rw [hmap]; exact r.D, fun p hp => by rw [hmap]; exact r.X p hp, by simp [r.R.1], fun j x ej => ?_⟩
    by_cases hj : j = i
    · subst hj
      rw [List.getElem?_set_self (by rw [← r.R.1]; exact hlt)] at ej
      cases ej
      exact ⟨_, by rw [List.getElem?_set_self hlt], hr⟩
    · rw [List.getElem?_set_ne (fun h => hj h.symm)] at ej
      obtain ⟨b, hb', x'⟩ := r.R.2 j x ej
      exact ⟨b, by rw [List.getElem?_set_ne (fun h => hj h.symm)]; exact hb', x'.mono hx (Sub.refl _)⟩

theorem FsRel.length {fs : List (String × RV)} {es : List DictEntry} (h : FsRel P K led fr fs es) : fs.length = es.length := by
  induction h with
  | nil => rfl
  | cons _ _ ih => simp [ih]
theorem FsRel.noRef {fs : List (String × RV)} {es : List DictEntry} (h : FsRel P K led fr fs es) : es.any (·.refKey) = false := by
  induction h with
  | nil => rfl
  | cons _ _ ih => rw [List.any_cons, ih]; rfl
theorem isStr_name (x y : String) (t : Tok) : (Value.str (Str.ofString x) t).isStr (Str.ofString y) = decide (x = y) := by
  show (Str.ofString x == Str.ofString y) = _
  by_cases h : x = y
  · subst h; simp
  · have : Str.ofString x ≠ Str.ofString y := fun e => h (ofString_inj e)
    rw [decide_eq_false h]
    exact beq_false_of_ne this
theorem FsRel.get {fs : List (String × RV)} {es : List DictEntry} (h : FsRel P K led fr fs es) (x : String) :
    (∀ v, fs.lookup x = some v → ∃ u, getL (Str.ofString x) es = some (some u) ∧ VRel K led fr v u) ∧ (fs.lookup x = none → getL (Str.ofString x) es = some none) := by
  have hn := h.noRef
  unfold getL
  induction h with
  | nil => exact ⟨fun v e => (by cases e), fun _ => rfl⟩
  | cons hv r ih =>
    rename_i y u t v fs es
    rw [List.any_cons, Bool.or_eq_false_iff] at hn
    rw [List.lookup_cons, List.find?_cons]
    show (∀ v', (match x == y with | true => some u | false => List.lookup x fs) = some v' → _) ∧ _
    have e : (Value.str (Str.ofString y) t).isStr (Str.ofString x) = decide (y = x) := isStr_name y x t
    rw [e]
    by_cases h : x = y
    · subst h
      simp only [beq_self_eq_true, decide_true]
      exact ⟨fun v' e => (by cases e; exact ⟨_, rfl, hv⟩), fun e => (by cases e)⟩
    · have h1 : (x == y) = false := by simp [h]
      have h2 : decide (y = x) = false := decide_eq_false fun e => h e.symm
      rw [h1, h2]
      have := ih hn.2
      rw [List.any_cons, hn.1, Bool.false_or]
      exact this
theorem FsRel.put {fs : List (String × RV)} {es : List DictEntry} (h : FsRel P K led fr fs es) {x : String} {v : RV} {u : Value} (hv : VRel K led fr v u) (t : Tok) :
    FsRel P K led fr (setL x v fs) (putL (Str.ofString x) (PyData.keyHash P (Str.ofString x)) (.str (Str.ofString x) t) u es) := by
  induction h with
  | nil => exact .cons hv .nil
  | cons hv' r ih =>
    rename_i y u' t' v' fs es
    unfold setL putL
    have e : (Value.str (Str.ofString y) t').isStr (Str.ofString x) = decide (y = x) := isStr_name y x t'
    show FsRel P K led fr _ (if (Value.str (Str.ofString y) t').isStr (Str.ofString x) = true then _ else _)
    rw [e]
    by_cases h : y = x
    · subst h
      simp only [if_true, decide_true]
      exact .cons hv r
    · rw [if_neg h, if_neg (by simp [h])]
      exact .cons hv' ih
theorem putL_len (nm : Str) (hs : Int) (k v : Value) : ∀ es : List DictEntry, (putL nm hs k v es).length ≤ es.length + 1
  | [] => Nat.le_refl _
  | e :: r => by
    unfold putL
    split
    · simp
    · simp; exact putL_len nm hs k v r
end

section
variable {prog : Program} {w : World} {K : Frag} {G : RProg} {U : UTy} {p : Program} {loose : List Str} {mg mb : Str → Option Value} {A : Around} {fenv env : Env} {ns : Ns} {h₀ : Heap} {L : Addr} {n : Nat} {mF mL : Str → Option Value}
  {led led' : Led} {fr fr' : Frz} {H H' : RH} {loc : Loc} {s s' : Shared} {E : Value → Shared → Prop} {P : Params} {Qr : PV} {Q : Value → Shared → Prop}

theorem Rel.inst_at (r : Rel P K h₀ L mF led fr H s) {i : Nat} {c : String} {fs : List (String × RV)} {x : Addr} (e : H[i]? = some (.inst c fs)) (ha : adr led i = some x) :
    ∃ C d ds k, nsIn K mainGlobals (Str.ofString c) = some (some (.ref C)) ∧ FsRel P K led fr fs ds ∧ led[i]? = some [(x, instObj C d), (d, dctO ds k)] ∧ InstAt s.heap x (instObj C d) C (some (dictOf ds k)) := by
  obtain ⟨b, hb, y⟩ := r.R.2 i _ e
  cases y with
  | inst hc hf =>
    rename_i C x' d ds k
    unfold adr at ha
    rw [hb] at ha
    have ha : x' = x := Option.some.inj ha
    subst ha
    have m1 : (x', instObj C d) ∈ led.flatten := mem_flat hb (.head _)
    have m2 : (d, dctO ds k) ∈ led.flatten := mem_flat hb (.tail _ (.head _))
    exact ⟨C, d, ds, k, hc, hf, hb, ⟨r.at (List.mem_append.mpr (.inl m1)), rfl, rfl, r.at (List.mem_append.mpr (.inl m2))⟩⟩
theorem VRel.handed {v : RV} {u : Value} (h : VRel K led fr v u) (hb : ∀ x, v ≠ .bi x) : handedIn u = true := by
  cases h <;> first | rfl | exact absurd rfl (hb _)

theorem attr_ok {o v : RV} {ou : Value} {x : String} {expr : Bool} (O : ProgOk K G) (a : Act prog K p loose mg mb A fenv h₀ L n) (r : Rel w.params K h₀ L mF led fr H s) (ho : VRel K led fr o ou)
    (hw : fieldR G H o x = some v) (hq : Qr v H) (hQ : EPost w.params K h₀ L mF led fr s Qr Q) : wpAny (model prog w) A (getAttr ou (Str.ofString x) expr) Q E s := by
  unfold fieldR at hw
  split at hw
  · split at hw
    · rename_i i c fs hi
      split at hw
      · rename_i hat
        have hl : fs.lookup x = some v ∧ ∀ y, v ≠ .bi y := by
          split at hw
          · cases hw
          · rename_i hne
            exact ⟨hw, fun y e => hne y (by rw [hw, e])⟩
        cases ho with
        | ref ha =>
          obtain ⟨C, d, ds, k, hc, hf, hb, I⟩ := r.inst_at hi ha
          unfold attrOk at hat
          split at hat
          · rename_i kl hk
            obtain ⟨C', hC', _, k2, _, ⟨k4, k5, k6, k7⟩, _⟩ := O.cl c kl hk
            rw [hc] at hC'
            cases hC'
            obtain ⟨attr, a1, a2, a3⟩ := k7 x (by simpa using hat)
            obtain ⟨u, g1, g2⟩ := (hf.get x).1 v hl.1
            exact get_own r.F a.X I k4 k2 a1 a2 g1 (g2.handed hl.2) (hQ.same r hq g2 _)
          · cases hat
      · cases hw
    · cases hw
  · cases hw

theorem setAttr_ok {o v : RV} {ou u : Value} {x : String} {H' : RH} {Q : Unit → Shared → Prop} (O : ProgOk K G) (a : Act prog K p loose mg mb A fenv h₀ L n) (r : Rel w.params K h₀ L mF led fr H s) (ho : VRel K led fr o ou) (hv : VRel K led fr v u)
    (hw : setField G H o x v = some H') (hQ : ∀ led' s', Rel w.params K h₀ L mF led' fr H' s' → Ext led led' → Sm s s' → Q () s') : wpAny (model prog w) A (setAttr ou (Str.ofString x) u) Q E s := by
  unfold setField at hw
  split at hw
  · split at hw
    · rename_i i c fs hi
      split at hw
      · rename_i hat
        simp only [Bool.and_eq_true, decide_eq_true_eq] at hat
        obtain ⟨hat, hlen⟩ := hat
        cases hw
        cases ho with
        | ref ha =>
          rename_i xa
          obtain ⟨C, d, ds, k, hc, hf, hb, I⟩ := r.inst_at hi ha
          unfold attrOk at hat
          split at hat
          · rename_i kl hk
            obtain ⟨C', hC', _, k2, _, ⟨k4, k5, k6, k7⟩, _⟩ := O.cl c kl hk
            rw [hc] at hC'
            cases hC'
            obtain ⟨attr, a1, a2, a3⟩ := k7 x (by simpa using hat)
            have hl : (getL (Str.ofString x) ds).isSome = true := by
              cases q : fs.lookup x with
              | none => rw [(hf.get x).2 q]; rfl
              | some v' => obtain ⟨u', g, _⟩ := (hf.get x).1 v' q; rw [g]; rfl
            obtain ⟨up, hx, hat', hr⟩ := r.setOb (pre := [(xa, instObj C d)]) (post := []) (d := d) (o := dctO ds k)
              (o' := dctO (putL (Str.ofString x) (PyData.keyHash w.params (Str.ofString x)) (.str (Str.ofString x) (s.toks + 1)) u ds) (putN (Str.ofString x) ds k)) hb
            refine set_dict r.F a.X r.N I rfl k5 k6 a3 k2 hl rfl up (Nat.le_trans (putL_len _ _ _ _ _) (by rw [← hf.length]; omega)) fun h' F' N' => ?_
            refine hQ _ _ (hr (.inst c (setL x v fs)) _ F' N' ?_) hx ((Sm.refl s).with h' _)
            exact .inst hc ((hf.mono hx (Sub.refl _)).put (hv.mono hx (Sub.refl _)) _)
          · cases hat
      · cases hw
    · cases hw
  · cases hw

theorem ev_attr {o : Expr} {x : Str} {pos : Pos} {o' : RE} {x' : String} (O : ProgOk K G) (h : EvOk prog w K G U p loose mg mb n o o') : EvOk prog w K G U p loose mg mb n (.Attribute o x pos) (.attr o' x') := by
  intro A fenv env ns h₀ L mF mL led fr H loc s E Qr Q hm N hw hQ
  simp only [mtE_attr, Bool.and_eq_true] at hm
  simp only [wpE] at hw
  obtain ⟨⟨h0, h1⟩, h2⟩ := hm
  have e := eq_of_beq h1
  subst e
  rw [arm_eval_Attribute, attrBase h0]
  refine wpAny_bind (h h2 N hw ?_)
  intro v u led₁ fr₁ H₁ s₁ q hv r₁ x₁ y₁ z₁
  refine wpAny_bind (wpAny_standAt (wpAny_bind (wpAny_holding ?_)))
  try dsimp only at q
  split at q
  · rename_i v' hv'
    refine attr_ok (Q := fun r s₂ => wpAny (model prog w) A (letTemporaryGo o u r >>= fun _ => pure r) Q E s₂) O N.a r₁ hv hv' q ?_
    intro v₂ u₂ led₂ fr₂ H₂ s₂ q₂ hv₂ r₂ x₂ y₂ z₂
    exact wpAny_bind (wpAny_letTemporaryGo (wpAny_pure (hQ v₂ u₂ led₂ fr₂ H₂ s₂ q₂ hv₂ r₂ (x₁.trans x₂) (y₁.trans y₂) (z₁.trans z₂))))
  · exact q.elim
end
end Mine

namespace Mine
open PySem PySem.W PySem.Calls PyProof.Rows PySem.SeqAt

/-! dicts keyed by texts: from the library's picture back to ours -/
inductive KvRel (K : Frag) (led : Led) (fr : Frz) : List (RV × RV) → List (Str × Value) → Prop where
  | nil : KvRel K led fr [] []
  | cons {x : Str} {u : RV} {v : Value} {es : List (RV × RV)} {kvs : List (Str × Value)} : VRel K led fr u v → KvRel K led fr es kvs → KvRel K led fr ((.str x, u) :: es) ((x, v) :: kvs)

section
variable {prog : Program} {w : World} {P : Params} {K : Frag} {h₀ : Heap} {L : Addr} {mF : Str → Option Value} {led led' : Led} {fr fr' : Frz} {H : RH} {s : Shared}

theorem DsRel.kv {es : List (RV × RV)} {ds : List DictEntry} (h : DsRel P K led fr es ds) : KvRel K led fr es (kvsOf ds) := by
  induction h with
  | nil => exact .nil
  | cons x _ ih => exact .cons x ih
theorem KvRel.mono {es : List (RV × RV)} {kvs : List (Str × Value)} (e : Ext led led') (h : Sub fr fr') (r : KvRel K led fr es kvs) : KvRel K led' fr' es kvs := by
  induction r with
  | nil => exact .nil
  | cons x _ ih => exact .cons (x.mono e h) ih
theorem KvRel.length {es : List (RV × RV)} {kvs : List (Str × Value)} (r : KvRel K led fr es kvs) : es.length = kvs.length := by
  induction r with
  | nil => rfl
  | cons x _ ih => simp [ih]
theorem ds_of_pairs {ds : List DictEntry} {es : List (RV × RV)} {kvs : List (Str × Value)} (hp : Pairs (PySem.strKind prog w) ds kvs) (hk : ∀ e ∈ ds, ∃ k, (PySem.strKind prog w).is k e.key = true ∧ e.hash = (PySem.strKind prog w).hash k)
    (r : KvRel K led fr es kvs) : DsRel w.params K led fr es ds ∧ ds.map (fun e => strOf e.key) = kvs.map (·.1) := by
  induction hp generalizing es with
  | nil => cases r; exact ⟨.nil, rfl⟩
  | cons h1 h2 h3 ih =>
    rename_i e kv ds kvs
    cases r with
    | cons hv r =>
      rename_i x u v es
      obtain ⟨k, k1, k2⟩ := hk e (.head _)
      have ex : k = x := (PySem.strKind prog w).inj _ _ _ k1 h1
      subst ex
      obtain ⟨t, ht⟩ := Value.isStrOf_shape h1
      obtain ⟨i1, i2⟩ := ih (fun e he => hk e (.tail _ he)) r
      obtain ⟨eh, ek, ev⟩ := e
      simp only at ht h2 k2
      subst ht; subst h2; subst k2
      exact ⟨.cons hv i1, by rw [List.map_cons, i2]; rfl⟩
theorem ds_of_dict {h : Heap} {a : Addr} {es : List (RV × RV)} {kvs : List (Str × Value)} (hd : h.DictOf (PySem.strKind prog w) a kvs) (r : KvRel K led fr es kvs) :
    ∃ ds n, h.get? a = some (dctO ds n) ∧ DsRel w.params K led fr es ds ∧ (ds.map fun e => strOf e.key).Nodup := by
  obtain ⟨o, ea, ep, ho, ⟨c1, c2, c3⟩, hdt, hk, hp, hn⟩ := hd
  obtain ⟨d1, d2⟩ := ds_of_pairs hp (fun e he => hk e (by simpa using he)) r
  refine ⟨ea.toList, ep, ?_, d1, by rw [d2]; exact hn⟩
  rw [ho]
  obtain ⟨oc, od, odt, osl⟩ := o
  simp only at c1 c2 c3 hdt
  subst c1; subst c2; subst c3; subst hdt
  rfl

theorem KvRel.absent {es : List (RV × RV)} {kvs : List (Str × Value)} {x : Str} (r : KvRel K led fr es kvs) (u : Value) (h : x ∉ kvs.map (·.1)) : kvs.map (fun kv => if kv.1 = x then (kv.1, u) else kv) = kvs := by
  induction r with
  | nil => rfl
  | cons _ _ ih =>
    simp only [List.map_cons, List.mem_cons, not_or] at h ⊢
    rw [if_neg fun e => h.1 e.symm, ih h.2]
theorem KvRel.put {es : List (RV × RV)} {kvs : List (Str × Value)} {x : Str} {v : RV} {u : Value} (r : KvRel K led fr es kvs) (hv : VRel K led fr v u) (hn : (kvs.map (·.1)).Nodup) :
    KvRel K led fr (putD (.str x) v es) (stored kvs x u) := by
  have aux : (kvs.any (fun kv => decide (kv.1 = x)) = true → KvRel K led fr (putD (.str x) v es) (kvs.map fun kv => if kv.1 = x then (kv.1, u) else kv)) ∧
      (kvs.any (fun kv => decide (kv.1 = x)) = false → KvRel K led fr (putD (.str x) v es) (kvs ++ [(x, u)])) := by
    induction r with
    | nil => exact ⟨fun h => by simp at h, fun _ => .cons hv .nil⟩
    | cons hv' r' ih =>
      rename_i y u' v' es' kvs'
      simp only [List.map_cons, List.nodup_cons] at hn
      have ih := ih hn.2
      simp only [List.any_cons, List.map_cons, putD, keyEq_str]
      by_cases h : y = x
      · subst h
        simp only [beq_self_eq_true, if_true, decide_true, Bool.true_or]
        exact ⟨fun _ => .cons hv (by rw [r'.absent u hn.1]; exact r'), fun h => by cases h⟩
      · have h1 : (y == x) = false := by simpa using h
        simp only [h1, h, if_false, decide_false, Bool.false_or, Bool.false_eq_true]
        exact ⟨fun q => .cons hv' (ih.1 q), fun q => .cons hv' (ih.2 q)⟩
  unfold stored
  cases hq : kvs.any (fun kv => decide (kv.1 = x)) with
  | true => rw [if_pos rfl]; exact aux.1 hq
  | false => rw [if_neg (by decide)]; exact aux.2 hq

/-- an object is changed in place -/
theorem Rel.chg {i : Nat} {d : Addr} {o o' : Obj} {ro' : RO} {s' : Shared} (r : Rel P K h₀ L mF led fr H s) (hb : led[i]? = some [(d, o)]) (hs : Heap.SameBut d s.heap s'.heap) (ho : s'.heap.get? d = some o')
    (hr : ∀ led', Ext led led' → ORel P K led' fr ro' [(d, o')]) : ∃ led', Ext led led' ∧ Rel P K h₀ L mF led' fr (H.set i ro') s' := by
  obtain ⟨up, hx, hat, hR⟩ := r.setOb (pre := []) (post := []) (d := d) (o := o) (o' := o') hb
  have z := r.N (d, o) (List.mem_append.mpr (.inl (mem_flat hb (.head _))))
  obtain ⟨pre, post, e1, e2, a, b⟩ := up.split
  refine ⟨_, hx, hR ro' s' (r.F.change hs z.2.1 z.2.2) ?_ (hr _ hx)⟩
  have N := r.N
  rw [e1] at N
  rw [e2]
  exact news_set N a b hs ho
end

section
variable {prog : Program} {w : World} {K : Frag} {G : RProg} {U : UTy} {p : Program} {loose : List Str} {mg mb : Str → Option Value} {A : Around} {fenv env : Env} {ns : Ns} {h₀ : Heap} {L : Addr} {n : Nat} {mF mL : Str → Option Value}
  {led led' : Led} {fr fr' : Frz} {H H' : RH} {loc : Loc} {s s' : Shared} {E : Value → Shared → Prop} {P : Params} {Qr : PV} {Q : Value → Shared → Prop}

theorem setItem_ok {o k v : RV} {ou ku u : Value} {H' : RH} {Q : Unit → Shared → Prop} (a : Act prog K p loose mg mb A fenv h₀ L n) (r : Rel w.params K h₀ L mF led fr H s) (ho : VRel K led fr o ou) (hk : VRel K led fr k ku) (hv : VRel K led fr v u)
    (hw : setSub H o k v = some H') (hQ : ∀ led' s', Rel w.params K h₀ L mF led' fr H' s' → Ext led led' → Sm s s' → Q () s') : wpAny (model prog w) A (setItem ou ku u) Q E s := by
  unfold setSub at hw
  split at hw
  · split at hw
    · rename_i j es hj
      split at hw
      · rename_i hc
        simp only [Bool.and_eq_true, decide_eq_true_eq] at hc
        cases hw
        cases ho with
        | ref ha =>
          rename_i da
          obtain ⟨ds, m, R1, nd, hb, hm, g⟩ := r.dict_at hj ha
          cases k with
          | str x =>
            cases hk with
            | str _ t =>
              have D := dict_of (prog := prog) R1 nd g
              have hl : (kvsOf ds).length = es.length := by rw [R1.length]; simp [kvsOf]
              refine wpAny_setItem_pairs (strKind_is prog w x t) D (fun h' D' hs => ?_) (by rw [hl]; have := hc.2; unfold sizeLine; omega)
              have kv := R1.kv.put (x := x) hv (by rw [kvs_keys]; exact nd)
              obtain ⟨ds', m', g', R', nd'⟩ := ds_of_dict D' kv
              obtain ⟨led', hx, r'⟩ := r.chg (ro' := .dict (putD (.str x) v es)) (s' := { s with heap := h', toks := s.toks + 1 }) hb hs g' fun led' hx => .dict (R'.mono hx (Sub.refl _)) nd'
              exact hQ led' _ r' hx ((Sm.refl s).with h' _)
          | _ => simp [keyOk] at hc
      · cases hw
    · cases hw
  · cases hw

theorem ev_dict0 {pos : Pos} : EvOk prog w K G U p loose mg mb n (.Dict [] [] pos) .dict0 := by
  intro A fenv env ns h₀ L mF mL led fr H loc s E Qr Q hm N hw hQ
  simp only [wpE] at hw
  refine newDict_K N.r.F N.r.N N.a.T.nolimit fun d h' o F' N' lt lo hd _ _ _ => ?_
  have g : h'.get? d = some o := (N' _ (.head _)).1
  obtain ⟨ds, m, g', R', nd'⟩ := ds_of_dict (K := K) (led := led ++ [[(d, o)]]) (fr := fr) (es := []) (Heap.dictOf_iff.mpr ⟨o, g, hd⟩) .nil
  rw [g] at g'
  cases g'
  have rr : Rel w.params K h₀ L mF (led ++ [[(d, dctO ds m)]]) fr (H ++ [.dict []]) { s with heap := h' } := by
    refine N.r.addOb F' N' (fun hm => ?_) (.dict R' nd')
    obtain ⟨z, hz, e⟩ := List.mem_map.mp hm
    exact Nat.lt_irrefl _ (e ▸ lt z hz)
  refine hQ (.ref H.length) (.ref d) _ fr _ _ hw (.ref ?_) rr (adr_snoc _) (Sub.refl _) ((Sm.refl s).with h' s.toks)
  rw [← N.r.R.1]; exact adr_last _ _
end
end Mine

namespace Mine
open PySem PySem.W PySem.Calls PyProof.Rows PySem.SeqAt

section
variable {prog : Program} {w : World} {K : Frag} {G : RProg} {U : UTy} {p : Program} {loose : List Str} {mg mb : Str → Option Value} {n : Nat}

theorem ev_vac {e : Expr} {r : RE} (h : ∀ ns, mtE ns e r = false) : EvOk prog w K G U p loose mg mb n e r := by
  intro A fenv env ns h₀ L mF mL led fr H loc s E Qr Q hm N hw hQ
  rw [h ns] at hm; cases hm
theorem ts_vac {e : Expr} {r : RE} (h : ∀ ns, mtE ns e r = false) : TsOk prog w K G U p loose mg mb n e r := by
  intro A fenv env ns h₀ L mF mL led fr H loc s E Qr Q hm N hw hQ
  rw [h ns] at hm; cases hm

theorem ev_const {c : Const} {k : Nat} {pos : Pos} {v : RV} : EvOk prog w K G U p loose mg mb n (.Constant c k pos) (.const v) := by
  intro A fenv env ns h₀ L mF mL led fr H loc s E Qr Q hm N hw hQ
  exact const_ok hm N.r hw hQ
theorem ev_loc {id : Str} {pos : Pos} {x : String} : EvOk prog w K G U p loose mg mb n (.Name id pos) (.loc x) := by
  intro A fenv env ns h₀ L mF mL led fr H loc s E Qr Q hm N hw hQ
  simp only [mtE_loc, Bool.and_eq_true, Bool.not_eq_true'] at hm
  simp only [wpE] at hw
  have e := eq_of_beq hm.1.1
  subst e
  exact name_loc hm.1.2 hm.2 N.e N.l N.r hw hQ
theorem ev_glb {id : Str} {pos : Pos} {x : String} (O : ProgOk K G) : EvOk prog w K G U p loose mg mb n (.Name id pos) (.glb x) := by
  intro A fenv env ns h₀ L mF mL led fr H loc s E Qr Q hm N hw hQ
  simp only [mtE_glb, Bool.and_eq_true, Bool.not_eq_true'] at hm
  simp only [wpE] at hw
  have e := eq_of_beq hm.1.1
  subst e
  exact name_glb O N.a (eq_of_beq hm.1.2) hm.2 N.e N.r hw hQ
theorem ev_bool {es : List Expr} {rs : List RE} {op : BoolOp} {b : Bool} {pos : Pos} (h : BoolsOk prog w K G U p loose mg mb n es rs) : EvOk prog w K G U p loose mg mb n (.BoolOp op es pos) (.boolop b rs) := by
  intro A fenv env ns h₀ L mF mL led fr H loc s E Qr Q hm N hw hQ
  simp only [mtE_const, mtE_loc, mtE_glb, mtE_boolop, mtE_bin, mtE_not, mtE_neg, mtE_cond, mtE_list, mtE_tup, mtE_cmp, mtE_sub, Bool.and_eq_true] at hm
  simp only [wpE] at hw
  have hb : (op == .And) = b := eq_of_beq hm.1
  rw [← hb] at hw
  exact h hm.2 N hw hQ

theorem ev_meth {o : Expr} {x : Str} {ap pos : Pos} {args : List Expr} {o' : RE} {x' : String} {rs : List RE} (O : ProgOk K G) (hU : UOk prog w K p loose mg mb U n) (h : EvOk prog w K G U p loose mg mb n o o')
    (h' : EvsOk prog w K G U p loose mg mb n args rs) : EvOk prog w K G U p loose mg mb n (.Call (.Attribute o x ap) args [] pos) (.meth o' x' rs) := by
  intro A fenv env ns h₀ L mF mL led fr H loc s E Qr Q hm N hw hQ
  simp only [wpE] at hw
theorem ev_comp1 {elt it : Expr} {x : Str} {xp pos : Pos} {ifs : List Expr} {k : Int} {sc : Scope} {elt' it' : RE} {x' : String} {ifs' : List RE} (h1 : EvOk prog w K G U p loose mg mb n it it') (h2 : EvOk prog w K G U p loose mg mb n elt elt')
    (h3 : IfsOk prog w K G U p loose mg mb n ifs ifs') : EvOk prog w K G U p loose mg mb n (.ListComp elt [⟨.Name x xp, it, ifs, k⟩] sc pos) (.comp1 elt' x' it' ifs') := by
  intro A fenv env ns h₀ L mF mL led fr H loc s E Qr Q hm N hw hQ
  simp only [wpE] at hw

theorem evs_all {es : List Expr} : ∀ {rs : List RE}, (∀ e ∈ es, ∀ r, EvOk prog w K G U p loose mg mb n e r) → EvsOk prog w K G U p loose mg mb n es rs := by
  induction es with
  | nil =>
    intro rs h
    cases rs with
    | nil => exact evs_nil
    | cons r rs =>
      intro A fenv env ns h₀ L mF mL led fr H loc s E Qr Q hm N hw hQ
      exact absurd hm Bool.false_ne_true
  | cons e es ih =>
    intro rs h
    cases rs with
    | nil =>
      intro A fenv env ns h₀ L mF mL led fr H loc s E Qr Q hm N hw hQ
      exact absurd hm Bool.false_ne_true
    | cons r rs => exact evs_cons (h e (.head _) r) (ih fun e he => h e (.tail _ he))

theorem ev_of {e : Expr} {r : RE} (h : ∀ ns, mtE ns e r = true → EvOk prog w K G U p loose mg mb n e r) : EvOk prog w K G U p loose mg mb n e r := by
  intro A fenv env ns h₀ L mF mL led fr H loc s E Qr Q hm N hw hQ
  exact h ns hm hm N hw hQ
theorem ts_of {e : Expr} {r : RE} (h : ∀ ns, mtE ns e r = true → TsOk prog w K G U p loose mg mb n e r) : TsOk prog w K G U p loose mg mb n e r := by
  intro A fenv env ns h₀ L mF mL led fr H loc s E Qr Q hm N hw hQ
  exact h ns hm hm N hw hQ
theorem evalOk' (O : ProgOk K G) (hU : UOk prog w K p loose mg mb U n) : ∀ (N : Nat) (e : Expr), sizeOf e < N → ∀ r, EvOk prog w K G U p loose mg mb n e r ∧ TsOk prog w K G U p loose mg mb n e r := by
  intro N
  induction N with
  | zero => intro e h; exact absurd h (Nat.not_lt_zero _)
  | succ N ih =>
    intro e he r
    have all : ∀ es : List Expr, sizeOf es ≤ N → ∀ e ∈ es, ∀ r, EvOk prog w K G U p loose mg mb n e r := fun es h e hm r => (ih e (Nat.lt_of_lt_of_le (List.sizeOf_lt_of_mem hm) h) r).1
    have allT : ∀ es : List Expr, sizeOf es ≤ N → ∀ e ∈ es, ∀ r, TsOk prog w K G U p loose mg mb n e r := fun es h e hm r => (ih e (Nat.lt_of_lt_of_le (List.sizeOf_lt_of_mem hm) h) r).2
    have key : ∀ ns, mtE ns e r = true → EvOk prog w K G U p loose mg mb n e r ∧ TsOk prog w K G U p loose mg mb n e r := by
      intro ns hm
      cases mt_of hm with
      | const => exact ⟨ev_const, ts_plain ev_const (fun _ _ _ _ => by first | rfl | (simp only [wpT]; rfl)) (fun _ _ => rfl)⟩
      | loc => exact ⟨ev_loc, ts_plain ev_loc (fun _ _ _ _ => by first | rfl | (simp only [wpT]; rfl)) (fun _ _ => rfl)⟩
      | glb => exact ⟨ev_glb O, ts_plain (ev_glb O) (fun _ _ _ _ => by first | rfl | (simp only [wpT]; rfl)) (fun _ _ => rfl)⟩
      | boolop =>
        simp only [Expr.BoolOp.sizeOf_spec] at he
        exact ⟨ev_bool (bools_ok (all _ (by omega))), ts_bool (alls_ok (allT _ (by omega)))⟩
      | bin h' =>
        rename_i l rr op op' pos a b
        simp only [Expr.BinOp.sizeOf_spec] at he
        have ho : op = op' := by simp only [mtE_bin, Bool.and_eq_true] at hm; exact eq_of_beq hm.1.1
        subst ho
        have h : EvOk prog w K G U p loose mg mb n (.BinOp l op rr pos) (.bin op a b) := ev_bin (ih l (by omega) a).1 (ih rr (by omega) b).1
        exact ⟨h, ts_plain h (fun _ _ _ _ => by first | rfl | (simp only [wpT]; rfl)) (fun _ _ => rfl)⟩
      | not =>
        simp only [Expr.UnaryOp.sizeOf_spec] at he
        exact ⟨ev_not (ih _ (by omega) _).1, ts_not (ih _ (by omega) _).2⟩
      | neg h' =>
        rename_i x pos a
        simp only [Expr.UnaryOp.sizeOf_spec] at he
        have h : EvOk prog w K G U p loose mg mb n (.UnaryOp .USub x pos) (.neg a) := ev_neg (ih x (by omega) a).1
        exact ⟨h, ts_plain h (fun _ _ _ _ => by first | rfl | (simp only [wpT]; rfl)) (fun _ _ => rfl)⟩
      | cond =>
        simp only [Expr.IfExp.sizeOf_spec] at he
        exact ⟨ev_cond (ih _ (by omega) _).2 (ih _ (by omega) _).1 (ih _ (by omega) _).1, ts_cond (ih _ (by omega) _).2 (ih _ (by omega) _).2 (ih _ (by omega) _).2⟩
      | list h' =>
        rename_i es pos rs
        simp only [Expr.List.sizeOf_spec] at he
        have h : EvOk prog w K G U p loose mg mb n (.List es pos) (.list rs) := ev_list (evs_all (all es (by omega)))
        exact ⟨h, ts_plain h (fun _ _ _ _ => by first | rfl | (simp only [wpT]; rfl)) (fun _ _ => rfl)⟩
      | tup h' =>
        rename_i es k pos rs
        simp only [Expr.Tuple.sizeOf_spec] at he
        have h : EvOk prog w K G U p loose mg mb n (.Tuple es k pos) (.tup rs) := ev_tup (evs_all (all es (by omega)))
        exact ⟨h, ts_plain h (fun _ _ _ _ => by first | rfl | (simp only [wpT]; rfl)) (fun _ _ => rfl)⟩
      | dict0 => exact ⟨ev_dict0, ts_plain ev_dict0 (fun _ _ _ _ => by first | rfl | (simp only [wpT]; rfl)) (fun _ _ => rfl)⟩
      | comp1 h' =>
        rename_i elt it x xp pos ifs k sc elt' it' x' ifs'
        simp only [Expr.ListComp.sizeOf_spec, List.cons.sizeOf_spec, Comprehension.mk.sizeOf_spec] at he
        have h : EvOk prog w K G U p loose mg mb n (.ListComp elt [⟨.Name x xp, it, ifs, k⟩] sc pos) (.comp1 elt' x' it' ifs') := ev_comp1 (ih it (by omega) it').1 (ih elt (by omega) elt').1 (ifs_ok (allT ifs (by omega)))
        exact ⟨h, ts_plain h (fun _ _ _ _ => by first | rfl | (simp only [wpT]; rfl)) (fun _ _ => rfl)⟩
      | cmp =>
        simp only [Expr.Compare.sizeOf_spec] at he
        exact ⟨ev_cmp (ih _ (by omega) _).1 (chs_ok (all _ (by omega))), ts_cmp (ih _ (by omega) _).1 (chts_ok (all _ (by omega)))⟩
      | call h' =>
        rename_i id np pos args f' rs
        simp only [Expr.Call.sizeOf_spec] at he
        have h : EvOk prog w K G U p loose mg mb n (.Call (.Name id np) args [] pos) (.call f' rs) := ev_call O hU (ih _ (by omega) f').1 (evs_all (all args (by omega)))
        exact ⟨h, ts_plain h (fun _ _ _ _ => by first | rfl | (simp only [wpT]; rfl)) (fun _ _ => rfl)⟩
      | meth h' =>
        rename_i o x ap pos args o' x' rs
        simp only [Expr.Call.sizeOf_spec, Expr.Attribute.sizeOf_spec] at he
        have h : EvOk prog w K G U p loose mg mb n (.Call (.Attribute o x ap) args [] pos) (.meth o' x' rs) := ev_meth O hU (ih o (by omega) o').1 (evs_all (all args (by omega)))
        exact ⟨h, ts_plain h (fun _ _ _ _ => by first | rfl | (simp only [wpT]; rfl)) (fun _ _ => rfl)⟩
      | attr h' =>
        rename_i o x pos o' x'
        simp only [Expr.Attribute.sizeOf_spec] at he
        have h : EvOk prog w K G U p loose mg mb n (.Attribute o x pos) (.attr o' x') := ev_attr O (ih o (by omega) o').1
        exact ⟨h, ts_plain h (fun _ _ _ _ => by first | rfl | (simp only [wpT]; rfl)) (fun _ _ => rfl)⟩
      | sub h' =>
        rename_i o i pos o' i'
        simp only [Expr.Subscript.sizeOf_spec] at he
        have h : EvOk prog w K G U p loose mg mb n (.Subscript o i pos) (.sub o' i') := ev_sub (ih o (by omega) o').1 (ih i (by omega) i').1
        exact ⟨h, ts_plain h (fun _ _ _ _ => by first | rfl | (simp only [wpT]; rfl)) (fun _ _ => rfl)⟩
    exact ⟨ev_of fun ns hm => (key ns hm).1, ts_of fun ns hm => (key ns hm).2⟩
theorem evalOk (O : ProgOk K G) (hU : UOk prog w K p loose mg mb U n) (e : Expr) (r : RE) : EvOk prog w K G U p loose mg mb n e r := (evalOk' O hU _ e (Nat.lt_succ_self _) r).1
theorem testOk (O : ProgOk K G) (hU : UOk prog w K p loose mg mb U n) (e : Expr) (r : RE) : TsOk prog w K G U p loose mg mb n e r := (evalOk' O hU _ e (Nat.lt_succ_self _) r).2
end
end Mine

namespace Mine
open PySem PySem.W PySem.Calls PyProof.Rows PySem.SeqAt

/-- a statement's state: the frame's own cells apart -/
structure SNow (prog : Program) (w : World) (K : Frag) (p : Program) (loose : List Str) (mg mb : Str → Option Value) (n : Nat) (A : Around) (env : Env) (h₀ : Heap) (L : Addr) (m : Str → Option Value)
    (led : Led) (cells fo : Frz) (loc : Loc) (H : RH) (s : Shared) : Prop where
  a : Act prog K p loose mg mb A env h₀ L n
  e : EnvOk env env.scope.names L m m (cells ++ fo)
  lo : env.locals = L
  l : LRel K led (cells ++ fo) env m loc
  r : Rel w.params K h₀ L m led (cells ++ fo) H s
  c1 : (cells.map (·.1)).Nodup
  c2 : ∀ q ∈ fo, q.1 ∉ cells.map (·.1)
  c3 : ∀ x, env.kindOf x = some .cell → ∃ c o v, env.cells.lookup x = some c ∧ (c, o) ∈ cells ∧ o.data = .cell v
  c4 : ∀ x y c, env.cells.lookup x = some c → env.cells.lookup y = some c → x = y
  c5 : ∀ q ∈ cells, ∃ v, q.2.data = .cell v

inductive FlRel (K : Frag) (led : Led) (fr : Frz) : RFl → Flow → Prop where
  | next : FlRel K led fr .next .next
  | brk : FlRel K led fr .brk .brk
  | cont : FlRel K led fr .cont .cont
  | ret {v : RV} {u : Value} : VRel K led fr v u → FlRel K led fr (.ret v) (.ret u)

section
variable {prog : Program} {w : World} {K : Frag} {G : RProg} {U : UTy} {p : Program} {loose : List Str} {mg mb : Str → Option Value} {n : Nat} {A : Around} {env : Env} {h₀ : Heap} {L : Addr} {m : Str → Option Value}
  {led led' : Led} {cells fo fr fr' : Frz} {loc : Loc} {H H' : RH} {s s' : Shared} {E : Value → Shared → Prop} {P : Params}

theorem Rel.congr (r : Rel P K h₀ L m led fr H s) (h : ∀ q, q ∈ fr' ↔ q ∈ fr) : Rel P K h₀ L m led fr' H s :=
  ⟨r.F, fun q hq => r.N q (List.mem_append.mpr ((List.mem_append.mp hq).imp id (h q).mp)), r.D, fun q hq => r.X q ((h q).mp hq), r.R.mono fun q hq => (h q).mpr hq⟩

/-- what is frozen behind an expression, the frame's own cells taken out -/
def restOf (cells fr : Frz) : Frz := fr.filter fun q => !(cells.map (·.1)).contains q.1
theorem rest_mem (r : Rel P K h₀ L m led fr H s) (hs : Sub cells fr) (q : Addr × Obj) : q ∈ cells ++ restOf cells fr ↔ q ∈ fr := by
  constructor
  · intro h
    rcases List.mem_append.mp h with h | h
    · exact hs q h
    · exact (List.mem_filter.mp h).1
  · intro h
    by_cases hc : q.1 ∈ cells.map (·.1)
    · obtain ⟨c, hm, e⟩ := List.mem_map.mp hc
      have g1 := r.at (List.mem_append.mpr (.inr h))
      have g2 := r.at (List.mem_append.mpr (.inr (hs c hm)))
      rw [e, g1] at g2
      have : q = c := Prod.ext e.symm (Option.some.inj g2)
      exact List.mem_append.mpr (.inl (this ▸ hm))
    · exact List.mem_append.mpr (.inr (List.mem_filter.mpr ⟨h, by simpa using hc⟩))

theorem SNow.now (N : SNow prog w K p loose mg mb n A env h₀ L m led cells fo loc H s) : Now prog w K p loose mg mb n A env h₀ L env env.scope.names m m led (cells ++ fo) loc H s := ⟨N.a, N.e, N.l, N.r⟩

theorem SNow.next (N : SNow prog w K p loose mg mb n A env h₀ L m led cells fo loc H s) (r : Rel w.params K h₀ L m led' fr' H' s') (x : Ext led led') (y : Sub (cells ++ fo) fr') :
    SNow prog w K p loose mg mb n A env h₀ L m led' cells (restOf cells fr') loc H' s' ∧ Sub fo (restOf cells fr') ∧ Sub fr' (cells ++ restOf cells fr') := by
  have hc : Sub cells fr' := fun q hq => y q (List.mem_append.mpr (.inl hq))
  have hm := rest_mem r hc
  have r' := r.congr hm
  have s1 : Sub (cells ++ fo) (cells ++ restOf cells fr') := fun q hq => (hm q).mpr (y q hq)
  have s2 : Sub fo (restOf cells fr') := fun q hq => List.mem_filter.mpr ⟨y q (List.mem_append.mpr (.inr hq)), by simpa using N.c2 q hq⟩
  exact ⟨⟨N.a, N.e.mono s1, N.lo, N.l.mono x s1, r', N.c1, fun q hq => by simpa using (List.mem_filter.mp hq).2, N.c3, N.c4, N.c5⟩, s2, fun q hq => (hm q).mpr hq⟩

/-- an expression within a statement -/
theorem evalS {e : Expr} {r : RE} {Qr : PV} {Q : Value → Shared → Prop} (h : EvOk prog w K G U p loose mg mb n e r) (hm : mtE env.scope.names e r = true) (N : SNow prog w K p loose mg mb n A env h₀ L m led cells fo loc H s)
    (hw : wpE G U r loc H Qr)
    (hQ : ∀ v u led' fo' H' s', Qr v H' → VRel K led' (cells ++ fo') v u → SNow prog w K p loose mg mb n A env h₀ L m led' cells fo' loc H' s' → Ext led led' → Sub fo fo' → Sm s s' → Q u s') :
    wpAny (model prog w) A (eval e env) Q E s := by
  refine h hm N.now hw ?_
  intro v u led₁ fr₁ H₁ s₁ q hv rr x y z
  obtain ⟨N', s1, s2⟩ := N.next rr x y
  exact hQ v u led₁ _ H₁ s₁ q (hv.mono (Ext.refl _) s2) N' x s1 z
theorem testS {e : Expr} {r : RE} {Qr : PB} {Q : Bool → Shared → Prop} (h : TsOk prog w K G U p loose mg mb n e r) (hm : mtE env.scope.names e r = true) (N : SNow prog w K p loose mg mb n A env h₀ L m led cells fo loc H s)
    (hw : wpT G U r (fun l H' Q' => wpE G U r l H' Q') loc H Qr)
    (hQ : ∀ b led' fo' H' s', Qr b H' → SNow prog w K p loose mg mb n A env h₀ L m led' cells fo' loc H' s' → Ext led led' → Sub fo fo' → Sm s s' → Q b s') :
    wpAny (model prog w) A (isTrue e env (eval e env)) Q E s := by
  refine h hm N.now hw ?_
  intro b led₁ fr₁ H₁ s₁ q rr x y z
  obtain ⟨N', s1, s2⟩ := N.next rr x y
  exact hQ b led₁ _ H₁ s₁ q N' x s1 z

/-- what stands still but for cells -/
def SubI (K : Frag) (fr fr' : Frz) : Prop := ∀ a (o : Obj), (∀ v, o.data ≠ .cell v) → Imm K fr a o → Imm K fr' a o
theorem Sub.I (h : Sub fr fr') : SubI K fr fr' := fun _ _ _ i => i.mono h
theorem SubI.trans {a b c : Frz} (x : SubI K a b) (y : SubI K b c) : SubI K a c := fun p o h i => y p o h (x p o h i)
mutual
theorem VRel.monoI (h : SubI K fr fr') : ∀ {u : RV} {v : Value}, VRel K led fr u v → VRel K led fr' u v
  | _, _, .none => .none
  | _, _, .bool b => .bool b
  | _, _, .int i t => .int i t
  | _, _, .str x t => .str x t
  | _, _, .tup i r => .tup (h _ _ (fun _ e => by cases e) i) (VsRel.monoI h r)
  | _, _, .rng i => .rng (h _ _ (fun _ e => by cases e) i)
  | _, _, .ref i => .ref i
  | _, _, .fn i => .fn i
  | _, _, .cls i => .cls i
  | _, _, .bi x => .bi x
  | _, _, .ty x => .ty x
  | _, _, .arg i c d r => .arg (h _ _ (fun _ e => by rw [d] at e; cases e) i) c d (VsRel.monoI h r)
theorem VsRel.monoI (h : SubI K fr fr') : ∀ {u : List RV} {v : List Value}, VsRel K led fr u v → VsRel K led fr' u v
  | _, _, .nil => .nil
  | _, _, .cons x r => .cons (VRel.monoI h x) (VsRel.monoI h r)
end
theorem FsRel.monoI (h : SubI K fr fr') {u : List (String × RV)} {v : List DictEntry} (r : FsRel P K led fr u v) : FsRel P K led fr' u v := by
  induction r with
  | nil => exact .nil
  | cons x _ ih => exact .cons (x.monoI h) ih
theorem DsRel.monoI (h : SubI K fr fr') {u : List (RV × RV)} {v : List DictEntry} (r : DsRel P K led fr u v) : DsRel P K led fr' u v := by
  induction r with
  | nil => exact .nil
  | cons x _ ih => exact .cons (x.monoI h) ih
theorem ORel.monoI (h : SubI K fr fr') {o : RO} {b : List (Addr × Obj)} (r : ORel P K led fr o b) : ORel P K led fr' o b := by
  cases r with
  | list x => exact .list (x.monoI h)
  | dict x d => exact .dict (x.monoI h) d
  | inst i x => exact .inst i (x.monoI h)
theorem HRel.monoI (h : SubI K fr fr') {H : RH} (r : HRel P K led fr H) : HRel P K led fr' H :=
  ⟨r.1, fun i o e => let ⟨b, hb, x⟩ := r.2 i o e; ⟨b, hb, x.monoI h⟩⟩
theorem lookup_setL {α : Type} (x : String) (v : α) (y : String) : ∀ l : List (String × α), (setL x v l).lookup y = if y = x then some v else l.lookup y
  | [] => by
    simp only [setL, List.lookup_cons, List.lookup_nil]
    by_cases h : y = x
    · simp [h]
    · have : (y == x) = false := by simpa using h
      simp [h, this]
  | (z, u) :: r => by
    have ih := lookup_setL x v y r
    unfold setL
    by_cases hz : z = x
    · subst hz
      simp only [if_true, List.lookup_cons]
      by_cases h : y = z
      · simp [h]
      · have : (y == z) = false := by simpa using h
        simp [h, this]
    · simp only [hz, if_false, List.lookup_cons]
      by_cases h : y = z
      · have : ¬ y = x := fun e => hz (h ▸ e)
        simp [h]
        intro e; exact absurd e hz
      · have : (y == z) = false := by simpa using h
        simp only [this]
        exact ih

/-- a name of the frame's is stored -/
theorem store_ok {x : String} {v : RV} {u : Value} {Q : Unit → Shared → Prop} (hx : isW (env.kindOf (Str.ofString x)) = true) (N : SNow prog w K p loose mg mb n A env h₀ L m led cells fo loc H s) (hv : VRel K led (cells ++ fo) v u)
    (hQ : ∀ m' cells' s', SNow prog w K p loose mg mb n A env h₀ L m' led cells' fo (setL x v loc) H s' → SubI K (cells ++ fo) (cells' ++ fo) → Sm s s' → Q () s') :
    wpAny (model prog w) A (storeName env (Str.ofString x) u) Q E s := by
  cases hk : env.kindOf (Str.ofString x) with
  | none => rw [hk] at hx; simp [isW] at hx
  | some k =>
    rw [hk] at hx
    cases k with
    | «local» =>
      have ns : s.heap.Ns env.locals m := by rw [N.lo]; exact N.r.F.ns
      refine wpAny_storeName_local hk ns (fun h' hn hs => ?_) (by rw [N.e.knd]; rfl)
      rw [N.lo] at hn hs
      refine hQ (fun y => if y = Str.ofString x then some u else m y) cells _ ⟨N.a, ⟨N.e.knd, N.e.gl, N.e.bl, N.e.frm, N.e.kin, N.e.cel, .inl ⟨N.lo, rfl⟩⟩, N.lo, ?_, ?_, N.c1, N.c2, N.c3, N.c4, N.c5⟩ (Sub.refl _).I ((Sm.refl s).with h' _)
      · intro y v' e
        rw [lookup_setL] at e
        by_cases hy : y = x
        · subst hy
          rw [if_pos rfl] at e; cases e
          exact ⟨fun _ => ⟨u, by simp, hv⟩, fun h => by rw [hk] at h; rcases h with h | h <;> cases h⟩
        · rw [if_neg hy] at e
          refine ⟨fun h => ?_, (N.l y v' e).2⟩
          obtain ⟨u', h1, h2⟩ := (N.l y v' e).1 h
          exact ⟨u', by show (if Str.ofString y = Str.ofString x then some u else m (Str.ofString y)) = _; rw [if_neg fun q => hy (ofString_inj q)]; exact h1, h2⟩
      · exact ⟨N.r.F.set hn hs, N.r.N.set hs, N.r.D, N.r.X, N.r.R⟩
    | cell =>
      obtain ⟨c, o, v₀, hc, hm, hd⟩ := N.c3 _ hk
      have hmem := N.r.N (c, o) (List.mem_append.mpr (.inr (List.mem_append.mpr (.inl hm))))
      refine wpAny_storeName_cell N.e.knd hk hc ⟨o, hmem.1, hd⟩ fun h' hv' hs => ?_
      obtain ⟨o', ho', hd'⟩ := hv'
      let upd : Addr × Obj → Addr × Obj := fun q => if q.1 = c then (c, o') else q
      have updfst : ∀ q, (upd q).1 = q.1 := fun q => by show (if q.1 = c then (c, o') else q).1 = q.1; split <;> simp_all
      have hmap : (cells.map upd).map (·.1) = cells.map (·.1) := by rw [List.map_map]; exact List.map_congr_left fun q _ => updfst q
      have sub1 : ∀ q ∈ cells ++ fo, q.1 ≠ c → q ∈ cells.map upd ++ fo := fun q hq hne => by
        rcases List.mem_append.mp hq with h | h
        · exact List.mem_append.mpr (.inl (List.mem_map.mpr ⟨q, h, by show (if q.1 = c then (c, o') else q) = q; rw [if_neg hne]⟩))
        · exact List.mem_append.mpr (.inr h)
      have new : (c, o') ∈ cells.map upd := List.mem_map.mpr ⟨(c, o), hm, by show (if c = c then (c, o') else (c, o)) = _; rw [if_pos rfl]⟩
      have hI : SubI K (cells ++ fo) (cells.map upd ++ fo) := fun a o₁ hne i => by
        rcases i with i | i
        · refine .inl (sub1 _ i fun e => ?_)
          have g := N.r.at (List.mem_append.mpr (.inr i))
          have e' : a = c := e
          subst e'
          rw [hmem.1] at g
          have g' : o = o₁ := Option.some.inj g
          exact hne v₀ (g' ▸ hd)
        · exact .inr i
      have cL : c ≠ L := hmem.2.1
      have F' : Fr h₀ L h' m := ⟨N.r.F.ns.sameBut hs (Ne.symm cL), fun b ob e => (hs.2 b (fun q => by rw [q, hmem.2.2] at e; cases e)).trans (N.r.F.keep b ob e), N.r.F.above⟩
      have back : ∀ q ∈ led.flatten ++ (cells.map upd ++ fo), (q.1 ≠ c ∧ q ∈ led.flatten ++ (cells ++ fo)) ∨ q = (c, o') := fun q hq => by
        have other : q ∈ led.flatten ++ fo → q.1 ≠ c := fun hq e => by
          rcases List.mem_append.mp hq with h | h
          · exact N.r.X (c, o) (List.mem_append.mpr (.inl hm)) (List.mem_map.mpr ⟨q, h, e⟩)
          · exact N.c2 q h (List.mem_map.mpr ⟨(c, o), hm, e.symm⟩)
        rcases List.mem_append.mp hq with h | h
        · exact .inl ⟨other (List.mem_append.mpr (.inl h)), List.mem_append.mpr (.inl h)⟩
        · rcases List.mem_append.mp h with h | h
          · obtain ⟨q', hq', e⟩ := List.mem_map.mp h
            by_cases hc' : q'.1 = c
            · right; rw [← e]; show (if q'.1 = c then (c, o') else q') = _; rw [if_pos hc']
            · have e2 : q' = q := by rw [← e]; show q' = (if q'.1 = c then (c, o') else q'); rw [if_neg hc']
              subst e2
              exact .inl ⟨hc', List.mem_append.mpr (.inr (List.mem_append.mpr (.inl hq')))⟩
          · exact .inl ⟨other (List.mem_append.mpr (.inr h)), List.mem_append.mpr (.inr (List.mem_append.mpr (.inr h)))⟩
      have N' : News h₀ L h' (led.flatten ++ (cells.map upd ++ fo)) := fun q hq => by
        rcases back q hq with ⟨hne, h⟩ | rfl
        · have := N.r.N q h
          exact ⟨(hs.2 q.1 hne).trans this.1, this.2⟩
        · exact ⟨ho', cL, hmem.2.2⟩
      refine hQ m (cells.map upd) _ ⟨N.a, ?_, N.lo, ?_, ⟨F', N', N.r.D, ?_, N.r.R.monoI hI⟩, by rw [hmap]; exact N.c1, fun q hq => by rw [hmap]; exact N.c2 q hq, ?_, N.c4, ?_⟩ hI ((Sm.refl s).with h' _)
      · exact ⟨N.e.knd, N.e.gl, N.e.bl, N.e.frm, N.e.kin, N.e.cel, .inl ⟨N.lo, rfl⟩⟩
      · intro y v' e
        rw [lookup_setL] at e
        by_cases hy : y = x
        · subst hy
          rw [if_pos rfl] at e; cases e
          exact ⟨(fun h => by rw [hk] at h; cases h), fun _ => ⟨c, o', u, hc, List.mem_append.mpr (.inl new), hd', hv.monoI hI⟩⟩
        · rw [if_neg hy] at e
          refine ⟨fun h => ?_, fun h => ?_⟩
          · obtain ⟨u', h1, h2⟩ := (N.l y v' e).1 h
            exact ⟨u', h1, h2.monoI hI⟩
          · obtain ⟨c', o₁, u', h1, h2, h3, h4⟩ := (N.l y v' e).2 h
            refine ⟨c', o₁, u', h1, sub1 _ h2 fun q => hy (ofString_inj (N.c4 _ _ c' h1 ?_)), h3, h4.monoI hI⟩
            rw [show c' = c from q]; exact hc
      · intro q hq hin
        rcases back q (List.mem_append.mpr (.inr hq)) with ⟨_, h⟩ | rfl
        · rcases List.mem_append.mp h with h | h
          · rcases List.mem_append.mp hq with hq | hq
            · obtain ⟨q', hq', e⟩ := List.mem_map.mp hq
              have : q'.1 = q.1 := by rw [← e]; exact (updfst q').symm
              exact N.r.X q' (List.mem_append.mpr (.inl hq')) (this ▸ hin)
            · exact N.r.X q (List.mem_append.mpr (.inr hq)) hin
          · exact N.r.X q h hin
        · exact N.r.X (c, o) (List.mem_append.mpr (.inl hm)) hin
      · intro y hy
        obtain ⟨c', o₁, v₁, h1, h2, h3⟩ := N.c3 y hy
        by_cases hc' : c' = c
        · subst hc'; exact ⟨_, o', _, h1, new, hd'⟩
        · exact ⟨c', o₁, v₁, h1, List.mem_map.mpr ⟨_, h2, by show (if c' = c then (c, o') else (c', o₁)) = _; rw [if_neg hc']⟩, h3⟩
      · intro q hq
        obtain ⟨q', hq', e⟩ := List.mem_map.mp hq
        by_cases hc' : q'.1 = c
        · have : q = (c, o') := by rw [← e]; show (if q'.1 = c then (c, o') else q') = _; rw [if_pos hc']
          rw [this]; exact ⟨_, hd'⟩
        · have : q = q' := by rw [← e]; show (if q'.1 = c then (c, o') else q') = _; rw [if_neg hc']
          rw [this]; exact N.c5 q' hq'
    | free => simp [isW] at hx
    | globalExplicit => simp [isW] at hx
    | globalImplicit => simp [isW] at hx
end
end Mine

namespace Mine
open PySem PySem.W PySem.Calls PyProof.Rows PySem.SeqAt

/-- what is handed on behind a statement -/
def SPost (prog : Program) (w : World) (K : Frag) (p : Program) (loose : List Str) (mg mb : Str → Option Value) (n : Nat) (A : Around) (env : Env) (h₀ : Heap) (L : Addr) (led : Led) (fo : Frz) (s : Shared) (Qr : PF) (Q : Flow → Shared → Prop) : Prop :=
  ∀ fl flow loc' m' led' cells' fo' H' s', Qr fl loc' H' → FlRel K led' (cells' ++ fo') fl flow → SNow prog w K p loose mg mb n A env h₀ L m' led' cells' fo' loc' H' s' → Ext led led' → Sub fo fo' → Sm s s' → Q flow s'

section
variable (prog : Program) (w : World) (K : Frag) (G : RProg) (U : UTy) (p : Program) (loose : List Str) (mg mb : Str → Option Value) (n : Nat)
def StOk (st : Stmt) (r : RT) : Prop := ∀ {A : Around} {env : Env} {h₀ : Heap} {L : Addr} {m : Str → Option Value} {led : Led} {cells fo : Frz} {loc : Loc} {H : RH} {s : Shared} {E : Value → Shared → Prop} {Qr : PF} {Q : Flow → Shared → Prop},
  mtS env.scope.names st r = true → SNow prog w K p loose mg mb n A env h₀ L m led cells fo loc H s → wpS G U r loc H Qr → SPost prog w K p loose mg mb n A env h₀ L led fo s Qr Q → wpAny (model prog w) A (exec st env) Q E s
def SsOk (st : List Stmt) (r : List RT) : Prop := ∀ {A : Around} {env : Env} {h₀ : Heap} {L : Addr} {m : Str → Option Value} {led : Led} {cells fo : Frz} {loc : Loc} {H : RH} {s : Shared} {E : Value → Shared → Prop} {Qr : PF} {Q : Flow → Shared → Prop},
  mtSs env.scope.names st r = true → SNow prog w K p loose mg mb n A env h₀ L m led cells fo loc H s → wpSs G U r loc H Qr → SPost prog w K p loose mg mb n A env h₀ L led fo s Qr Q → wpAny (model prog w) A (execs st env) Q E s
end

section
variable {prog : Program} {w : World} {K : Frag} {G : RProg} {U : UTy} {p : Program} {loose : List Str} {mg mb : Str → Option Value} {n : Nat} {A : Around} {env : Env} {h₀ : Heap} {L : Addr} {m : Str → Option Value}
  {led led' : Led} {cells fo fo' : Frz} {loc : Loc} {H H' : RH} {s s' : Shared} {E : Value → Shared → Prop}

theorem SPost.after {Qr : PF} {Q : Flow → Shared → Prop} (hQ : SPost prog w K p loose mg mb n A env h₀ L led fo s Qr Q) (x : Ext led led') (y : Sub fo fo') (z : Sm s s') : SPost prog w K p loose mg mb n A env h₀ L led' fo' s' Qr Q :=
  fun fl flow loc₁ m₁ led₁ c₁ fo₁ H₁ s₁ q hf N x' y' z' => hQ fl flow loc₁ m₁ led₁ c₁ fo₁ H₁ s₁ q hf N (x.trans x') (y.trans y') (z.trans z')

theorem inter_false (N : SNow prog w K p loose mg mb n A env h₀ L m led cells fo loc H s) : interactive env = false := by
  unfold interactive
  rw [N.e.knd]; rfl

theorem swaps_plain {e : Expr} {t : Option Expr} {k : Nat} (h : plainVal e = true) : swapsWith e t k env = pure false := by
  cases e <;> first | rfl | (simp [plainVal] at h)

theorem st_expr {e : Expr} {r : RE} {pos : Pos} (h : EvOk prog w K G U p loose mg mb n e r) : StOk prog w K G U p loose mg mb n (.Expr e pos) (.expr r) := by
  intro A env h₀ L m led cells fo loc H s E Qr Q hm N hw hQ
  simp only [mtS_expr, mtS_ret1, mtS_asg1, mtS_asgs, mtS_asgAttr, mtS_asgSub, mtS_ite, mtS_for, mtS_while, mtS_try, Bool.and_eq_true] at hm
  simp only [wpS] at hw
  refine wpAny_Expr_any (evalS h hm.2 N hw ?_) (inter_false N) (swaps_plain hm.1)
  intro v u led₁ fo₁ H₁ s₁ q hv N' x y z
  exact hQ .next .next loc m led₁ cells fo₁ H₁ s₁ q .next N' x y z
theorem st_ret {e : Expr} {r : RE} {pos : Pos} (h : EvOk prog w K G U p loose mg mb n e r) : StOk prog w K G U p loose mg mb n (.Return (some e) pos) (.ret (some r)) := by
  intro A env h₀ L m led cells fo loc H s E Qr Q hm N hw hQ
  simp only [mtS_expr, mtS_ret1, mtS_asg1, mtS_asgs, mtS_asgAttr, mtS_asgSub, mtS_ite, mtS_for, mtS_while, mtS_try] at hm
  simp only [wpS] at hw
  refine wpAny_Return_some (evalS h hm N hw ?_)
  intro v u led₁ fo₁ H₁ s₁ q hv N' x y z
  exact hQ _ _ loc m led₁ cells fo₁ H₁ s₁ q (.ret hv) N' x y z
theorem st_ret0 {pos : Pos} : StOk prog w K G U p loose mg mb n (.Return none pos) (.ret none) := by
  intro A env h₀ L m led cells fo loc H s E Qr Q hm N hw hQ
  simp only [wpS] at hw
  exact wpAny_Return_none (hQ _ _ loc m led cells fo H s hw (.ret .none) N (Ext.refl _) (Sub.refl _) (Sm.refl _))
theorem st_asg {e : Expr} {r : RE} {id : Str} {x : String} {np pos : Pos} (h : EvOk prog w K G U p loose mg mb n e r) (hc : plainVal e = true) : StOk prog w K G U p loose mg mb n (.Assign [.Name id np] e pos) (.asg (.name x) r) := by
  intro A env h₀ L m led cells fo loc H s E Qr Q hm N hw hQ
  simp only [mtS_expr, mtS_ret1, mtS_asg1, mtS_asgs, mtS_asgAttr, mtS_asgSub, mtS_ite, mtS_for, mtS_while, mtS_try, Bool.and_eq_true] at hm
  simp only [wpS] at hw
  have e := eq_of_beq hm.1.2
  subst e
  refine wpAny_Assign_Name (evalS h hm.1.1 N hw ?_) (swaps_plain hc)
  intro v u led₁ fo₁ H₁ s₁ q hv N' x₁ y₁ z₁
  refine store_ok hm.2 N' hv ?_
  intro m' cells' s₂ N'' hI z₂
  exact hQ .next .next _ m' led₁ cells' fo₁ H₁ s₂ q .next N'' x₁ y₁ (z₁.trans z₂)
theorem st_ite {t : Expr} {t' : RE} {a b : List Stmt} {a' b' : List RT} {pos : Pos} (h0 : TsOk prog w K G U p loose mg mb n t t') (h1 : SsOk prog w K G U p loose mg mb n a a') (h2 : SsOk prog w K G U p loose mg mb n b b') :
    StOk prog w K G U p loose mg mb n (.If t a b pos) (.ite t' a' b') := by
  intro A env h₀ L m led cells fo loc H s E Qr Q hm N hw hQ
  simp only [mtS_expr, mtS_ret1, mtS_asg1, mtS_asgs, mtS_asgAttr, mtS_asgSub, mtS_ite, mtS_for, mtS_while, mtS_try, Bool.and_eq_true] at hm
  simp only [wpS] at hw
  refine wpAny_If (testS h0 hm.1.1 N hw ?_)
  intro c led₁ fo₁ H₁ s₁ q N' x y z
  cases c with
  | true => exact h1 hm.1.2 N' q (hQ.after x y z)
  | false => exact h2 hm.2 N' q (hQ.after x y z)
theorem ss_nil : SsOk prog w K G U p loose mg mb n [] [] := by
  intro A env h₀ L m led cells fo loc H s E Qr Q hm N hw hQ
  simp only [wpSs] at hw
  exact wpAny_pure (hQ _ _ loc m led cells fo H s hw .next N (Ext.refl _) (Sub.refl _) (Sm.refl _))
theorem ss_cons {st : Stmt} {ss : List Stmt} {r : RT} {rs : List RT} (h1 : StOk prog w K G U p loose mg mb n st r) (h2 : SsOk prog w K G U p loose mg mb n ss rs) : SsOk prog w K G U p loose mg mb n (st :: ss) (r :: rs) := by
  intro A env h₀ L m led cells fo loc H s E Qr Q hm N hw hQ
  simp only [mtSs_cons, Bool.and_eq_true] at hm
  simp only [wpSs] at hw
  show wpAny (model prog w) A (exec st env >>= fun f => match f with | .next => execs ss env | f => pure f) Q E s
  refine wpAny_bind (h1 hm.1 N hw ?_)
  intro fl flow loc₁ m₁ led₁ c₁ fo₁ H₁ s₁ q hf N' x y z
  cases hf with
  | next => exact h2 hm.2 N' q (hQ.after x y z)
  | brk => exact wpAny_pure (hQ _ _ loc₁ m₁ led₁ c₁ fo₁ H₁ s₁ q .brk N' x y z)
  | cont => exact wpAny_pure (hQ _ _ loc₁ m₁ led₁ c₁ fo₁ H₁ s₁ q .cont N' x y z)
  | ret hv => exact wpAny_pure (hQ _ _ loc₁ m₁ led₁ c₁ fo₁ H₁ s₁ q (.ret hv) N' x y z)

/-- several names at once -/
theorem names_ok {es : List Expr} : ∀ {xs : List String} {vs : List RV} {us : List Value} {m : Str → Option Value} {cells : Frz} {loc : Loc} {s : Shared} {Q : Unit → Shared → Prop}, mtNames env.scope.names es xs = true → xs.length = vs.length →
    VsRel K led (cells ++ fo) vs us → SNow prog w K p loose mg mb n A env h₀ L m led cells fo loc H s →
    (∀ m' cells' s', SNow prog w K p loose mg mb n A env h₀ L m' led cells' fo ((xs.zip vs).foldl (fun l q => setL q.1 q.2 l) loc) H s' → SubI K (cells ++ fo) (cells' ++ fo) → Sm s s' → Q () s') →
    wpAny (model prog w) A (assignInOrder ((assignEach es env).map (·.2)) us) Q E s := by
  induction es with
  | nil =>
    intro xs vs us m cells loc s Q hm hl hv N hQ
    cases xs with
    | cons x xs => simp [mtNames] at hm
    | nil =>
      cases vs with
      | cons v vs => simp at hl
      | nil =>
        cases hv
        exact wpAny_pure (hQ m cells s N (Sub.refl _).I (Sm.refl _))
  | cons e es ih =>
    intro xs vs us m cells loc s Q hm hl hv N hQ
    cases xs with
    | nil => cases e <;> simp [mtNames] at hm
    | cons x xs =>
      cases vs with
      | nil => simp at hl
      | cons v vs =>
        cases hv with
        | cons hv hvs =>
          cases e with
          | Name id np =>
            simp only [mtNames, Bool.and_eq_true] at hm
            have e := eq_of_beq hm.1.1
            subst e
            show wpAny (model prog w) A (assignInOrder (assign (.Name (Str.ofString x) np) env :: (assignEach es env).map (·.2)) (_ :: _)) Q E s
            unfold assignInOrder
            refine wpAny_bind (wpAny_holding (wpAny_assign_Name (store_ok hm.1.2 N hv ?_)))
            intro m' cells' s₁ N' hI z
            refine ih hm.2 (by simpa using hl) (hvs.monoI hI) N' ?_
            intro m'' cells'' s₂ N'' hI' z'
            exact hQ m'' cells'' s₂ N'' (hI.trans hI') (z.trans z')
          | _ => simp [mtNames] at hm
theorem names_len {es : List Expr} : ∀ {xs : List String} {ns : Ns}, mtNames ns es xs = true → (assignEach es env).length = xs.length ∧ (assignEach es env).findIdx? (·.1) = none := by
  induction es with
  | nil => intro xs ns hm; cases xs with
    | nil => exact ⟨rfl, rfl⟩
    | cons x xs => simp [mtNames] at hm
  | cons e es ih =>
    intro xs ns hm
    cases xs with
    | nil => cases e <;> simp [mtNames] at hm
    | cons x xs =>
      cases e with
      | Name id np =>
        simp only [mtNames, Bool.and_eq_true] at hm
        have := ih hm.2
        constructor
        · show (assignEach es env).length + 1 = xs.length + 1
          rw [this.1]
        · show List.findIdx? (·.1) ((false, assign (.Name id np) env) :: assignEach es env) = none
          rw [List.findIdx?_cons]
          simp [this.2]
      | _ => simp [mtNames] at hm
theorem SNow.grown (N : SNow prog w K p loose mg mb n A env h₀ L m led cells fo loc H s) {h' : Heap} {t : Nat} (hk : ∀ b o, s.heap.get? b = some o → h'.get? b = some o) :
    SNow prog w K p loose mg mb n A env h₀ L m led cells fo loc H { s with heap := h', toks := t } := ⟨N.a, N.e, N.lo, N.l, N.r.grown hk, N.c1, N.c2, N.c3, N.c4, N.c5⟩
theorem assign_ok {t : Expr} {tg : RTg} {v : RV} {u : Value} {loc' : Loc} {Q : Unit → Shared → Prop} (hm : mtTg env.scope.names t tg = true) (N : SNow prog w K p loose mg mb n A env h₀ L m led cells fo loc H s) (hv : VRel K led (cells ++ fo) v u) (hl : asgT tg v loc = some loc')
    (hQ : ∀ m' cells' s', SNow prog w K p loose mg mb n A env h₀ L m' led cells' fo loc' H s' → SubI K (cells ++ fo) (cells' ++ fo) → Sm s s' → Q () s') : wpAny (model prog w) A (assign t env u) Q E s := by
  cases tg with
  | name x =>
    cases t with
    | Name id np =>
      simp only [mtTg, Bool.and_eq_true] at hm
      have e := eq_of_beq hm.1
      subst e
      simp only [asgT] at hl
      cases hl
      exact wpAny_assign_Name (store_ok hm.2 N hv hQ)
    | _ => simp [mtTg] at hm
  | names xs =>
    cases t with
    | Tuple es k tp =>
      simp only [mtTg] at hm
      cases v with
      | tup vs =>
        simp only [asgT] at hl
        split at hl
        · rename_i hlen
          cases hl
          cases hv with
          | tup i rs =>
            rename_i a us k'
            have hl2 := rs.length
            obtain ⟨l1, l2⟩ := names_len (env := env) hm
            refine wpAny_bind (wpAny_standAt ?_)
            refine unpack_tuple N.a.hd (items := us.toArray) ⟨_, N.r.imm N.a.X i, rfl, k', rfl⟩ (by rw [l1, hlen, hl2]; simp) l2 fun h' hx => ?_
            have hk : ∀ b o, s.heap.get? b = some o → h'.get? b = some o := fun b o e => hx b o (Nat.ne_of_lt (Heap.lt_size e)) e
            have N' := N.grown (t := s.toks) hk
            exact names_ok hm hlen rs N' fun m' cells' s₂ N'' hI z => hQ m' cells' s₂ N'' hI (Sm.trans ((Sm.refl s).with h' s.toks) z)
        · cases hl
      | _ => simp [asgT] at hl
    | _ => simp [mtTg] at hm
end
end Mine

namespace Mine
open PySem PySem.W PySem.Calls PyProof.Rows PySem.SeqAt

theorem lookup_zip_none {α β : Type} [BEq α] [LawfulBEq α] {x : α} : ∀ {xs : List α} {vs : List β}, x ∉ xs → (xs.zip vs).lookup x = none
  | [], _, _ => rfl
  | y :: xs, [], _ => rfl
  | y :: xs, v :: vs, h => by
    simp only [List.zip_cons_cons, List.lookup_cons]
    have : (x == y) = false := by
      cases hq : x == y with
      | false => rfl
      | true => exact absurd (eq_of_beq hq ▸ .head _) h
    rw [this]
    exact lookup_zip_none fun hm => h (.tail _ hm)
theorem lookup_zip_skip {α β : Type} [BEq α] [LawfulBEq α] {x : α} {l l' : List (α × β)} (h : l.lookup x = none) : (l ++ l').lookup x = l'.lookup x := by
  induction l with
  | nil => rfl
  | cons p l ih =>
    obtain ⟨y, v⟩ := p
    rw [List.cons_append, List.lookup_cons]
    rw [List.lookup_cons] at h
    cases hq : x == y with
    | true => rw [hq] at h; cases h
    | false => rw [hq] at h; exact ih h
theorem lookup_app_left {α β : Type} [BEq α] {x : α} {v : β} {l l' : List (α × β)} (h : l.lookup x = some v) : (l ++ l').lookup x = some v := by
  induction l with
  | nil => cases h
  | cons p l ih =>
    obtain ⟨y, u⟩ := p
    rw [List.cons_append, List.lookup_cons]
    rw [List.lookup_cons] at h
    cases hq : x == y with
    | true => rw [hq] at h; exact h
    | false => rw [hq] at h; exact ih h

/-- the step that fills in a default -/
def fillD (slots : List (Str × Value)) (q : Str × Value) : List (Str × Value) := if (slots.lookup q.1).isNone then slots ++ [q] else slots
/-- names that are there already are passed by, the others are put at the end -/
theorem fill_new : ∀ (qs slots : List (Str × Value)), (qs.map (·.1)).Nodup → (∀ q ∈ qs, slots.lookup q.1 = none) → qs.foldl fillD slots = slots ++ qs
  | [], slots, _, _ => by simp
  | q :: qs, slots, hn, h => by
    simp only [List.map_cons, List.nodup_cons] at hn
    rw [List.foldl_cons]
    have e : fillD slots q = slots ++ [q] := by unfold fillD; rw [h q (.head _)]; rfl
    rw [e, fill_new qs _ hn.2 fun q' hq' => ?_]
    · simp
    · rw [lookup_zip_skip (h q' (.tail _ hq'))]
      obtain ⟨y, v⟩ := q
      simp only [List.lookup_cons, List.lookup_nil]
      have : (q'.1 == y) = false := by
        cases hq : q'.1 == y with
        | false => rfl
        | true => exact absurd (List.mem_map.mpr ⟨q', hq', eq_of_beq hq⟩) hn.1
      rw [this]
theorem fill_old : ∀ (qs slots : List (Str × Value)), (∀ q ∈ qs, (slots.lookup q.1).isSome = true) → qs.foldl fillD slots = slots
  | [], _, _ => rfl
  | q :: qs, slots, h => by
    rw [List.foldl_cons]
    have e : fillD slots q = slots := by unfold fillD; rw [if_neg]; simp [Option.isNone_iff_eq_none, Option.isSome_iff_ne_none.mp (h q (.head _))]
    rw [e]; exact fill_old qs slots fun q' hq' => h q' (.tail _ hq')
theorem lookup_zip_at {α β : Type} [BEq α] [LawfulBEq α] : ∀ {xs : List α} {vs : List β} {j : Nat} {x : α} {v : β}, xs.Nodup → xs[j]? = some x → vs[j]? = some v → (xs.zip vs).lookup x = some v
  | [], _, _, _, _, _, h, _ => by simp at h
  | y :: xs, [], _, _, _, _, _, h => by simp at h
  | y :: xs, u :: vs, 0, x, v, _, h1, h2 => by
    simp at h1 h2; subst h1; subst h2
    simp [List.lookup_cons]
  | y :: xs, u :: vs, j + 1, x, v, hn, h1, h2 => by
    simp only [List.nodup_cons] at hn
    have hx : x ∈ xs := List.mem_of_getElem? (by simpa using h1)
    simp only [List.zip_cons_cons, List.lookup_cons]
    have : (x == y) = false := by
      cases hq : x == y with
      | false => rfl
      | true => exact absurd (eq_of_beq hq ▸ hx) hn.1
    rw [this]
    exact lookup_zip_at hn.2 (by simpa using h1) (by simpa using h2)
theorem filterMap_zip {ws : List Value} {slots : List (Str × Value)} : ∀ {xs : List Str}, xs.length = ws.length → (∀ (j : Nat) (x : Str) (v : Value), xs[j]? = some x → ws[j]? = some v → slots.lookup x = some v) → (xs.filterMap fun n => (slots.lookup n).map (n, ·)) = xs.zip ws := by
  induction ws with
  | nil =>
    intro xs hl _
    cases xs with
    | nil => rfl
    | cons x xs => simp at hl
  | cons v ws ih =>
    intro xs hl h
    cases xs with
    | nil => simp at hl
    | cons x xs =>
      rw [List.filterMap_cons, h 0 x v rfl rfl]
      simp only [Option.map_some, List.zip_cons_cons]
      rw [ih (by simpa using hl) fun j y u h1 h2 => h (j + 1) y u (by simpa using h1) (by simpa using h2)]

theorem forIn_fill {β : Type} (f : Str × Value → List (Str × Value) → Sem (ForInStep (List (Str × Value)))) (hf : ∀ q sl, f q sl = pure (.yield (fillD sl q))) : ∀ (qs slots : List (Str × Value)), forIn qs slots f = (pure (qs.foldl fillD slots) : Sem _)
  | [], slots => rfl
  | q :: qs, slots => by
    rw [List.forIn_cons, hf]
    exact forIn_fill (β := β) f hf qs (fillD slots q)

theorem zip_split {α β : Type} : ∀ (k : Nat) (xs : List α) (ds : List β), xs.zip ds = (xs.take k).zip (ds.take k) ++ (xs.drop k).zip (ds.drop k)
  | 0, xs, ds => by simp
  | k + 1, [], ds => by simp
  | k + 1, x :: xs, [] => by simp
  | k + 1, x :: xs, d :: ds => by simp [← zip_split k xs ds]
theorem zip_short {α β : Type} (xs : List α) (vs : List β) : xs.zip vs = (xs.take vs.length).zip vs := by
  have := zip_split vs.length xs vs
  simpa using this
theorem binds_ok {s : Shared} {fd : FuncData} {vals ds : List Value} (hp : fd.params.posonlyargs = []) (hva : fd.params.vararg = none) (hko : fd.params.kwonlyargs = []) (hkw : fd.params.kwarg = none)
    (hnd : (fd.params.args.map (·.arg)).Nodup) (hl : vals.length ≤ (fd.params.args.map (·.arg)).length) (hl2 : (fd.params.args.map (·.arg)).length ≤ vals.length + ds.length) (hl3 : ds.length ≤ (fd.params.args.map (·.arg)).length)
    (hd : ∀ (M : Model) (A : Around) (E : Value → Shared → Prop) (Q : Option (Array Value) → Shared → Prop), (∀ o, (o.getD #[]).toList = ds → Q o s) → wpAny M A (seqItems? fd.defaults) Q E s) :
    BindsTo s fd ⟨vals, []⟩ ((fd.params.args.map (·.arg)).zip (vals ++ ds.drop (ds.length - ((fd.params.args.map (·.arg)).length - vals.length)))) := by
  intro M A E Q hQ
  unfold bindArgs
  simp only [hp, hva, hko, hkw, List.map_nil, List.nil_append, List.append_nil, List.forIn_nil, pure_bind]
  refine wpAny_bind (hd _ _ _ _ fun o ho => ?_)
  simp only [ho]
  generalize hx : fd.params.args.map (·.arg) = xs at *
  have c1 : ¬ ((decide (vals.length > xs.length) && (none : Option Arg).isNone) = true) := by simp; omega
  rw [if_neg c1]
  have e0 : ds.length - xs.length = 0 := by omega
  rw [e0, List.drop_zero]
  have look : ∀ (j : Nat) (x : Str) (v : Value), xs[j]? = some x → vals[j]? = some v → (xs.zip vals).lookup x = some v := fun j x v h1 h2 => lookup_zip_at hnd h1 h2
  have c2 : ((xs.take (xs.length - ds.length)).filter fun n => ((xs.zip vals).lookup n).isNone) = [] := by
    rw [List.filter_eq_nil_iff]
    intro x hx'
    obtain ⟨j, hj, e⟩ := List.mem_iff_getElem.mp hx'
    rw [List.length_take] at hj
    have h1 : xs[j]? = some x := by rw [← e, List.getElem_take, List.getElem?_eq_getElem]
    have hjv : j < vals.length := by omega
    rw [look j x vals[j] h1 (List.getElem?_eq_getElem hjv)]
    simp
  rw [c2]
  simp only [List.isEmpty_nil, Bool.not_true, Bool.false_eq_true, if_false]
  rw [forIn_fill (β := Unit) _ (fun q sl => by unfold fillD; cases q; dsimp only; split <;> rfl)]
  show wpAny M A (pure _) Q E s
  refine wpAny_pure ?_
  -- the names that are given, then those that are filled in
  have split1 : (xs.drop (xs.length - ds.length)).zip ds = ((xs.drop (xs.length - ds.length)).take (vals.length - (xs.length - ds.length))).zip (ds.take (vals.length - (xs.length - ds.length))) ++ (xs.drop vals.length).zip (ds.drop (vals.length - (xs.length - ds.length))) := by
    have := zip_split (vals.length - (xs.length - ds.length)) (xs.drop (xs.length - ds.length)) ds
    rw [List.drop_drop, show xs.length - ds.length + (vals.length - (xs.length - ds.length)) = vals.length by omega] at this
    exact this
  have f1 : (((xs.drop (xs.length - ds.length)).take (vals.length - (xs.length - ds.length))).zip (ds.take (vals.length - (xs.length - ds.length)))).foldl fillD (xs.zip vals) = xs.zip vals := by
    apply fill_old
    intro q hq
    have hq1 := List.of_mem_zip (a := q.1) (b := q.2) hq
    obtain ⟨j, hj, e⟩ := List.mem_iff_getElem.mp hq1.1
    rw [List.length_take, List.length_drop] at hj
    have h1 : xs[xs.length - ds.length + j]? = some q.1 := by
      rw [← e, List.getElem_take, List.getElem_drop, List.getElem?_eq_getElem]
    have hjv : xs.length - ds.length + j < vals.length := by omega
    rw [look _ _ _ h1 (List.getElem?_eq_getElem hjv)]
    rfl
  have f2 : ((xs.drop vals.length).zip (ds.drop (vals.length - (xs.length - ds.length)))).foldl fillD (xs.zip vals) = xs.zip vals ++ (xs.drop vals.length).zip (ds.drop (vals.length - (xs.length - ds.length))) := by
    apply fill_new
    · have : (((xs.drop vals.length).zip (ds.drop (vals.length - (xs.length - ds.length)))).map (·.1)) = xs.drop vals.length := by
        rw [List.map_fst_zip]
        simp; omega
      rw [this]
      exact hnd.sublist (List.drop_sublist _ _)
    · intro q hq
      have hq1 := List.of_mem_zip (a := q.1) (b := q.2) hq
      have hne : q.1 ∉ xs.take vals.length := fun hm => by
        have hn2 : (xs.take vals.length ++ xs.drop vals.length).Nodup := by rw [List.take_append_drop]; exact hnd
        exact (List.nodup_append.mp hn2).2.2 _ hm _ hq1.1 rfl
      rw [zip_short]
      exact lookup_zip_none hne
  rw [split1, List.foldl_append, f1, f2]
  have e1 : ds.length - (xs.length - vals.length) = vals.length - (xs.length - ds.length) := by omega
  have e2 : xs.zip vals ++ (xs.drop vals.length).zip (ds.drop (vals.length - (xs.length - ds.length))) = xs.zip (vals ++ ds.drop (vals.length - (xs.length - ds.length))) := by
    have := zip_split vals.length xs (vals ++ ds.drop (vals.length - (xs.length - ds.length)))
    rw [this, List.take_left' rfl, List.drop_left' rfl, ← zip_short]
  rw [filterMap_zip (ws := vals ++ ds.drop (ds.length - (xs.length - vals.length)))]
  · exact hQ
  · simp; omega
  · intro j x v h1 h2
    rw [e2, ← e1]
    exact lookup_zip_at hnd h1 h2
end Mine

namespace Mine
open PySem PySem.W PySem.Calls PyProof.Rows PySem.SeqAt

theorem bindL_out {kindOf : Str → Option NameKind} {x : Str} : ∀ (binds : List (Str × Value)) (m : Str → Option Value), x ∉ binds.map (·.1) → bindL kindOf binds m x = m x
  | [], m, _ => rfl
  | (y, v) :: r, m, h => by
    simp only [List.map_cons, List.mem_cons, not_or] at h
    unfold bindL
    rw [bindL_out r _ h.2]
    split
    · show (if x = y then some v else m x) = m x
      rw [if_neg h.1]
    · rfl
theorem bindL_at {kindOf : Str → Option NameKind} {x : Str} {v : Value} : ∀ (binds : List (Str × Value)) (m : Str → Option Value), (binds.map (·.1)).Nodup → (x, v) ∈ binds → kindOf x = some .local → bindL kindOf binds m x = some v
  | [], m, _, h, _ => by cases h
  | (y, u) :: r, m, hn, h, hk => by
    simp only [List.map_cons, List.nodup_cons] at hn
    unfold bindL
    rcases List.mem_cons.mp h with e | h
    · cases e
      rw [bindL_out r _ hn.1, if_pos hk, if_pos rfl]
    · exact bindL_at r _ hn.2 h hk
theorem bindC_out {kindOf : Str → Option NameKind} {x : Str} : ∀ (binds : List (Str × Value)) (m : Str → Option Value), x ∉ binds.map (·.1) → bindC kindOf binds m x = m x
  | [], m, _ => rfl
  | (y, v) :: r, m, h => by
    simp only [List.map_cons, List.mem_cons, not_or] at h
    unfold bindC
    rw [bindC_out r _ h.2]
    split
    · rfl
    · show (if x = y then some v else m x) = m x
      rw [if_neg h.1]
theorem bindC_at {kindOf : Str → Option NameKind} {x : Str} {v : Value} : ∀ (binds : List (Str × Value)) (m : Str → Option Value), (binds.map (·.1)).Nodup → (x, v) ∈ binds → kindOf x = some .cell → bindC kindOf binds m x = some v
  | [], m, _, h, _ => by cases h
  | (y, u) :: r, m, hn, h, hk => by
    simp only [List.map_cons, List.nodup_cons] at hn
    unfold bindC
    rcases List.mem_cons.mp h with e | h
    · cases e
      have : ¬ kindOf x = some .local := by rw [hk]; intro e; cases e
      rw [bindC_out r _ hn.1, if_neg this, if_pos rfl]
    · exact bindC_at r _ hn.2 h hk

/-- the cells that a frame begins with -/
theorem cellsFrom_ge : ∀ (names : Ns) (k : Nat) (acc : List (Str × Addr)), (∀ q ∈ acc, q.2 < k) → (acc.map (·.2)).Nodup → (((cellsFrom k names acc).map (·.2)).Nodup ∧ ∀ q ∈ cellsFrom k names acc, q ∈ acc ∨ k ≤ q.2)
  | [], k, acc, h, hn => ⟨hn, fun q hq => .inl hq⟩
  | (x, kd) :: r, k, acc, h, hn => by
    unfold cellsFrom
    split
    · have := cellsFrom_ge r (k + 1) ((x, k) :: acc) (fun q hq => by
        rcases List.mem_cons.mp hq with rfl | hq
        · exact Nat.lt_succ_self _
        · exact Nat.lt_succ_of_lt (h q hq)) (by
        simp only [List.map_cons, List.nodup_cons]
        refine ⟨fun hm => ?_, hn⟩
        obtain ⟨q, hq, e⟩ := List.mem_map.mp hm
        exact Nat.lt_irrefl _ (e ▸ h q hq))
      refine ⟨this.1, fun q hq => ?_⟩
      rcases this.2 q hq with h1 | h1
      · rcases List.mem_cons.mp h1 with rfl | h1
        · exact .inr (Nat.le_refl _)
        · exact .inl h1
      · exact .inr (Nat.le_of_succ_le h1)
    · exact cellsFrom_ge r k acc h hn
theorem cellsFrom_ins : ∀ (names : Ns) (k : Nat) (acc : List (Str × Addr)), (cellsFrom k names acc).map (·.1) = ((names.filter fun q => q.2 == .cell).map (·.1)).reverse ++ acc.map (·.1)
  | [], k, acc => by simp [cellsFrom]
  | (x, kd) :: r, k, acc => by
    unfold cellsFrom
    split
    · rename_i h
      rw [cellsFrom_ins r]
      simp [h]
    · rename_i h
      rw [cellsFrom_ins r]
      simp [h]
theorem cellsAre_fst {cm : Str → Option Value} {cs : List (Str × Addr)} {cells : List (Addr × Obj)} (h : CellsAre cm cs cells) : cells.map (·.1) = cs.map (·.2) := by
  induction h with
  | nil => rfl
  | cons _ _ ih => simp [ih]
theorem cellsAre_at {cm : Str → Option Value} {cs : List (Str × Addr)} {cells : List (Addr × Obj)} (h : CellsAre cm cs cells) {x : Str} {c : Addr} (hm : (x, c) ∈ cs) : ∃ o, (c, o) ∈ cells ∧ o.data = .cell (cm x) := by
  induction h with
  | nil => cases hm
  | cons hd _ ih =>
    rcases List.mem_cons.mp hm with e | hm
    · cases e; exact ⟨_, .head _, hd⟩
    · obtain ⟨o, h1, h2⟩ := ih hm; exact ⟨o, .tail _ h1, h2⟩
theorem cellsAre_data {cm : Str → Option Value} {cs : List (Str × Addr)} {cells : List (Addr × Obj)} (h : CellsAre cm cs cells) : ∀ q ∈ cells, ∃ v, q.2.data = .cell v := by
  induction h with
  | nil => intro q hq; cases hq
  | cons hd _ ih =>
    intro q hq
    rcases List.mem_cons.mp hq with rfl | hq
    · exact ⟨_, hd⟩
    · exact ih q hq
theorem lookup_of_nodup {α β : Type} [BEq α] [LawfulBEq α] {x : α} {v : β} : ∀ {l : List (α × β)}, (l.map (·.1)).Nodup → (x, v) ∈ l → l.lookup x = some v
  | [], _, h => by cases h
  | (y, u) :: r, hn, h => by
    simp only [List.map_cons, List.nodup_cons] at hn
    rw [List.lookup_cons]
    rcases List.mem_cons.mp h with e | h
    · cases e; simp
    · have : (x == y) = false := by
        cases hq : x == y with
        | false => rfl
        | true => exact absurd (List.mem_map.mpr ⟨_, h, (eq_of_beq hq)⟩) hn.1
      rw [this]; exact lookup_of_nodup hn.2 h
theorem snd_inj {α β : Type} {x y : α} {v : β} {l : List (α × β)} (hn : (l.map (·.2)).Nodup) (h1 : (x, v) ∈ l) (h2 : (y, v) ∈ l) : x = y := by
  induction l with
  | nil => cases h1
  | cons q r ih =>
    obtain ⟨z, u⟩ := q
    simp only [List.map_cons, List.nodup_cons] at hn
    rcases List.mem_cons.mp h1 with e1 | k1 <;> rcases List.mem_cons.mp h2 with e2 | k2
    · cases e1; cases e2; rfl
    · cases e1; exact absurd (List.mem_map.mpr ⟨_, k2, rfl⟩) hn.1
    · cases e2; exact absurd (List.mem_map.mpr ⟨_, k1, rfl⟩) hn.1
    · exact ih hn.2 k1 k2
theorem nodup_rev {α : Type} : ∀ {l : List α}, l.Nodup → l.reverse.Nodup := fun {l} h => by
  unfold List.Nodup at *
  rw [List.pairwise_reverse]
  exact h.imp fun h e => h e.symm
theorem nodup_names : ∀ {l : List String}, l.Nodup → (l.map Str.ofString).Nodup
  | [], _ => .nil
  | x :: l, h => by
    simp only [List.nodup_cons, List.map_cons] at h ⊢
    refine ⟨fun hm => ?_, nodup_names h.2⟩
    obtain ⟨y, hy, e⟩ := List.mem_map.mp hm
    exact h.1 (ofString_inj e ▸ hy)
theorem zip_lookup {α β : Type} {x : String} {v : β} : ∀ {xs : List String} {vs : List β}, (xs.zip vs).lookup x = some v → ∃ j : Nat, xs[j]? = some x ∧ vs[j]? = some v
  | [], _, h => by simp at h
  | y :: xs, [], h => by simp at h
  | y :: xs, u :: vs, h => by
    simp only [List.zip_cons_cons, List.lookup_cons] at h
    cases hq : x == y with
    | true => rw [hq] at h; cases h; exact ⟨0, by rw [eq_of_beq hq]; rfl, rfl⟩
    | false =>
      rw [hq] at h
      obtain ⟨j, h1, h2⟩ := zip_lookup (α := α) h
      exact ⟨j + 1, by simpa using h1, by simpa using h2⟩
theorem zip_mem {α β : Type} {x : α} {v : β} {xs : List α} {vs : List β} {j : Nat} (h1 : xs[j]? = some x) (h2 : vs[j]? = some v) : (x, v) ∈ xs.zip vs := by
  have : (xs.zip vs)[j]? = some (x, v) := by
    rw [List.getElem?_zip_eq_some]; exact ⟨h1, h2⟩
  exact List.mem_of_getElem? this
theorem VsRel.drop {K : Frag} {led : Led} {fr : Frz} : ∀ (k : Nat) {us : List RV} {vs : List Value}, VsRel K led fr us vs → VsRel K led fr (us.drop k) (vs.drop k)
  | 0, _, _, h => h
  | k + 1, _, _, .nil => .nil
  | k + 1, _, _, .cons _ r => VsRel.drop k r

section
variable {prog : Program} {w : World} {K : Frag} {G : RProg} {p : Program} {loose : List Str} {mg mb : Str → Option Value} {n : Nat}
theorem uok_succ (hS : ∀ ss rs, SsOk prog w K G (callU G n) p loose mg mb n ss rs) : UOk prog w K p loose mg mb (callU G (n + 1)) (n + 1) := by
  intro A fenv h₀ L mF led fr H s Qr R d f qual args vals a hm hv r hw hQ
  unfold mtFn at hm
  split at hm
  · rename_i c od fd osl hK
    simp only [Bool.and_eq_true, decide_eq_true_eq] at hm
    obtain ⟨⟨⟨⟨⟨⟨⟨⟨⟨⟨⟨⟨⟨⟨⟨⟨⟨⟨⟨⟨hgl, hcl⟩, hbl⟩, hqn⟩, hcd⟩, hgen⟩, hcor⟩, hkd⟩, hnn⟩, hfree⟩, hpo⟩, hva⟩, hko⟩, hkw⟩, hpar⟩, hpw⟩, hpn⟩, hdl⟩, hdf⟩, hkd2⟩, hbody⟩ := hm
    have hgl := eq_of_beq hgl
    have hcl : fd.closure = [] := by simpa using hcl
    have hbl := eq_of_beq hbl
    have hqn := eq_of_beq hqn
    have hgen : fd.scope.isGenerator = false := by simpa using hgen
    have hcor : fd.scope.isCoroutine = false := by simpa using hcor
    have hkd := eq_of_beq hkd
    have hpo : fd.params.posonlyargs = [] := by simpa using hpo
    have hva : fd.params.vararg = none := by simpa using hva
    have hko : fd.params.kwonlyargs = [] := by simpa using hko
    have hkw : fd.params.kwarg = none := by simpa using hkw
    have hpar := eq_of_beq hpar
    split at hbody
    · rename_i b hb
      have hfd : fd = fnX fd.name fd.qualname fd.params b fd.scope [] fd.defaults fd.kwdefaults fd.doc fd.pyModule fd.annotations fd.code fd.closureTuple := by
        cases fd; simp_all
      simp only [callU] at hw
      split at hw
      · rename_i loc hloc
        unfold bindR at hloc
        split at hloc
        · rename_i hlen
          cases hloc
          obtain ⟨A₀, base, outer, hB, hA⟩ := a.bel
          have Xs : K.In s.heap := a.X.keeps r.F.keep
          -- the defaults
          obtain ⟨ds, hds, hdl', hrd⟩ : ∃ ds : List Value, VsRel K led fr d.dflts ds ∧ ds.length = d.dflts.length ∧
              ∀ (M : Model) (A : Around) (E : Value → Shared → Prop) (Q : Option (Array Value) → Shared → Prop), (∀ o, (o.getD #[]).toList = ds → Q o s) → wpAny M A (seqItems? fd.defaults) Q E s := by
            split at hdf
            · rename_i hdn
              have : d.dflts = [] := by simpa using hdf
              rw [this, hdn]
              exact ⟨[], .nil, rfl, fun M A E Q hq => wpAny_of_eq (show seqItems? Value.none = pure none from rfl) (hq none rfl)⟩
            · rename_i t ht
              split at hdf
              · rename_i cc vs' k' sl' hKt
                simp only [Bool.and_eq_true, decide_eq_true_eq] at hdf
                refine ⟨vs'.toList, VsRel_of_mtV 4 _ _ hdf.1.2 hdf.2, hdf.1.2, fun M A E Q hq => ?_⟩
                rw [ht]
                exact wpAny_seqItems (Xs _ _ hKt) rfl (hq _ rfl)
              · cases hdf
            · cases hdf
          have hargs := hv.length
          have hnames : (fd.params.args.map (·.arg)).length = d.params.length := by rw [hpar, List.length_map]
          have hndn : (fd.params.args.map (·.arg)).Nodup := by
            rw [hpar]
            exact nodup_names hpn
          have hall := hv.append (hds.drop (d.dflts.length - (d.params.length - args.length)))
          have hbinds := binds_ok (s := s) (fd := fd) (vals := vals) (ds := ds) hpo hva hko hkw hndn (by rw [hnames, ← hargs]; exact hlen.1) (by rw [hnames, hdl', ← hargs]; exact hlen.2) (by rw [hnames, hdl']; exact hdl) hrd
          rw [hnames, hdl', ← hargs] at hbinds
          generalize hbn : (fd.params.args.map (·.arg)).zip (vals ++ ds.drop (d.dflts.length - (d.params.length - args.length))) = binds at hbinds
          have hws : (vals ++ ds.drop (d.dflts.length - (d.params.length - args.length))).length = d.params.length := by
            rw [List.length_append, List.length_drop, hdl', ← hargs]; have := hlen.1; have := hlen.2; omega
          have hbf : binds.map (·.1) = fd.params.args.map (·.arg) := by
            rw [← hbn, List.map_fst_zip]; rw [hnames, hws]; exact Nat.le_refl _
          have hbnd : (binds.map (·.1)).Nodup := by rw [hbf]; exact hndn
          have hkinds : ∀ x ∈ binds, isW (fd.scope.names.lookup x.1) = true := fun x hx => by
            have : x.1 ∈ fd.params.args.map (·.arg) := hbf ▸ List.mem_map_of_mem hx
            obtain ⟨q, hq, e⟩ := List.mem_map.mp this
            rw [← e]
            exact List.all_eq_true.mp hpw q hq
          have cellName : ∀ x, fd.scope.names.lookup x = some .cell → ∀ k, ∃ c, (cellsFrom k fd.scope.names []).lookup x = some c := fun x hx k => by
            have := cellsFrom_some fd.scope.names k [] (.inl hx)
            exact Option.isSome_iff_exists.mp this
          have cellFst : ∀ k, ((cellsFrom k fd.scope.names []).map (·.1)).Nodup := fun k => by
            rw [cellsFrom_ins]
            simp only [List.map_nil, List.append_nil]
            refine nodup_rev ?_
            exact hnn.sublist (List.Sublist.map _ List.filter_sublist)
          rw [hfd] at hK hbinds
          refine callX_cells hB r.F r.N a.T.nolimit hA a.frm a.knd (Xs _ _ hK) rfl (codeRec_of Xs hcd) (by have := a.dep; omega) hbinds (fun k x hx => ?_) (cellFst 0) ?_ hcor hgen hkd
          · have hk := hkinds x hx
            simp only [isW, Bool.or_eq_true, beq_iff_eq] at hk
            rcases hk with hk | hk
            · exact .inl hk
            · obtain ⟨c, hc⟩ := cellName _ hk k
              exact .inr ⟨hk, by rw [hc]; rfl⟩
          · intro g L' h₁ tk cells FG F' N' CA B' st hlt
            have cge := cellsFrom_ge fd.scope.names (L' + 1) [] (fun q hq => by cases hq) .nil
            have cmem : ∀ x c, (cellsFrom (L' + 1) fd.scope.names []).lookup x = some c → (x, c) ∈ cellsFrom (L' + 1) fd.scope.names [] := fun x c e => lookup_mem e
            have cbig : ∀ q ∈ cells, L' < q.1 := fun q hq => by
              have : q.1 ∈ (cellsFrom (L' + 1) fd.scope.names []).map (·.2) := by rw [← cellsAre_fst CA]; exact List.mem_map_of_mem hq
              obtain ⟨z, hz, e⟩ := List.mem_map.mp this
              rcases cge.2 z hz with h | h
              · cases h
              · rw [← e]; exact h
            have kindEq : ∀ x, (envOfC fd.qualname fd.scope L' f fd.code).kindOf x = fd.scope.names.lookup x := fun x => rfl
            have hAct : Act prog K p loose mg mb (A.deeper (envOfC fd.qualname fd.scope L' f fd.code)) (envOfC fd.qualname fd.scope L' f fd.code) g L' n :=
              ⟨⟨A, base, fenv :: outer, B', Around.frames_deeper B'.stack⟩, rfl, hkd, hgen, hcor, rfl, rfl, a.X.keeps st, a.T.keeps st, a.sr.keeps st, a.tr, a.hd,
                by have := a.dep; show A.depth + 1 + 10 * n + 115 + 5 < _; omega, by have := a.uni; show A.units + 3 + 40 * n + 195 + 5 < _; omega⟩
            have hfr : Sub fr (cells ++ fr) := fun q hq => List.mem_append.mpr (.inr hq)
            have NW : SNow prog w K p loose mg mb n (A.deeper (envOfC fd.qualname fd.scope L' f fd.code)) (envOfC fd.qualname fd.scope L' f fd.code) g L' (bindL (envOfC fd.qualname fd.scope L' f fd.code).kindOf binds fun _ => none) led cells fr
                (d.params.zip (args ++ d.dflts.drop (d.dflts.length - (d.params.length - args.length)))) H { s with heap := h₁, toks := tk } := by
              refine ⟨hAct, ⟨hkd, rfl, rfl, rfl, fun x k h => .inl h, fun x hx => ?_, .inl ⟨rfl, rfl⟩⟩, rfl, ?_, ⟨F', ?_, r.D, ?_, r.R.mono hfr⟩, ?_, ?_, ?_, ?_, cellsAre_data CA⟩
              · rcases hx with hx | hx
                · exact cellName x hx (L' + 1)
                · have := List.all_eq_true.mp hfree (x, .free) (lookup_mem hx)
                  simp at this
              · intro x v hx
                obtain ⟨j, h1, h2⟩ := zip_lookup (α := Unit) hx
                obtain ⟨u, hu, hvr⟩ := hall.get j v h2
                have hmem : (Str.ofString x, u) ∈ binds := by
                  rw [← hbn, hpar]
                  exact zip_mem (by rw [List.getElem?_map, h1]; rfl) hu
                refine ⟨fun hk => ⟨u, bindL_at binds _ hbnd hmem hk, hvr.mono (Ext.refl _) hfr⟩, fun hk => ?_⟩
                have hk : (envOfC fd.qualname fd.scope L' f fd.code).kindOf (Str.ofString x) = some .cell := by
                  rcases hk with hk | hk
                  · exact hk
                  · have := List.all_eq_true.mp hfree (Str.ofString x, .free) (lookup_mem hk)
                    simp at this
                obtain ⟨c, hc⟩ := cellName _ hk (L' + 1)
                obtain ⟨o, ho, hod⟩ := cellsAre_at CA (cmem _ _ hc)
                refine ⟨c, o, u, hc, List.mem_append.mpr (.inl ho), ?_, hvr.mono (Ext.refl _) hfr⟩
                rw [hod, bindC_at binds _ hbnd hmem hk]
              · intro q hq
                rcases List.mem_append.mp hq with h | h
                · exact N' q (List.mem_append.mpr (.inr (List.mem_append.mpr (.inl h))))
                · rcases List.mem_append.mp h with h | h
                  · exact N' q (List.mem_append.mpr (.inl h))
                  · exact N' q (List.mem_append.mpr (.inr (List.mem_append.mpr (.inr h))))
              · intro q hq hin
                rcases List.mem_append.mp hq with h | h
                · obtain ⟨z, hz, e⟩ := List.mem_map.mp hin
                  have h1 := hlt z (List.mem_append.mpr (.inl hz))
                  have h2 := cbig q h
                  rw [e] at h1; exact absurd h1 (Nat.not_lt.mpr (Nat.le_of_lt h2))
                · exact r.X q h hin
              · rw [cellsAre_fst CA]; exact cge.1
              · intro q hq hin
                obtain ⟨z, hz, e⟩ := List.mem_map.mp hin
                have h1 := hlt q (List.mem_append.mpr (.inr hq))
                have h2 := cbig z hz
                rw [e] at h2; exact absurd h1 (Nat.not_lt.mpr (Nat.le_of_lt h2))
              · intro x hx
                obtain ⟨c, hc⟩ := cellName x hx (L' + 1)
                obtain ⟨o, ho, hod⟩ := cellsAre_at CA (cmem _ _ hc)
                exact ⟨c, o, _, hc, ho, hod⟩
              · intro x y c h1 h2
                exact snd_inj cge.1 (cmem _ _ h1) (cmem _ _ h2)
            refine hS b d.body hbody NW hw ?_
            intro fl flow loc' m' led₁ cells₁ fo₁ H₁ s₁ q hf N₁ x y z
            refine leaveK_ (news' := led₁.flatten ++ fo₁) N₁.r.F (fun q hq => N₁.r.N q (by
              rcases List.mem_append.mp hq with h | h
              · exact List.mem_append.mpr (.inl h)
              · exact List.mem_append.mpr (.inr (List.mem_append.mpr (.inr h))))) fun kF kN => ?_
            have hI : SubI K (cells₁ ++ fo₁) fo₁ := fun a' o hne i => by
              rcases i with i | i
              · rcases List.mem_append.mp i with i | i
                · obtain ⟨v, e⟩ := N₁.c5 _ i
                  exact absurd e (hne v)
                · exact .inl i
              · exact .inr i
            have R₁ : Rel w.params K h₀ L mF led₁ fo₁ H₁ s₁ := ⟨kF, kN, N₁.r.D, fun q hq => N₁.r.X q (List.mem_append.mpr (.inr hq)), N₁.r.R.monoI hI⟩
            have Z : Sm s s₁ := Sm.trans ((Sm.refl s).with h₁ tk) z
            cases hf with
            | next => exact hQ .none .none led₁ fo₁ H₁ s₁ q .none R₁ x y Z
            | brk => exact hQ .none .none led₁ fo₁ H₁ s₁ q .none R₁ x y Z
            | cont => exact hQ .none .none led₁ fo₁ H₁ s₁ q .none R₁ x y Z
            | ret hv' => exact hQ _ _ led₁ fo₁ H₁ s₁ q (hv'.monoI hI) R₁ x y Z
        · cases hloc
      · exact hw.elim
    · cases hbody
  · cases hm
end
end Mine

namespace Mine
open PySem PySem.W PySem.Calls PyProof.Rows PySem.SeqAt

section
variable {prog : Program} {w : World} {K : Frag} {G : RProg} {U : UTy} {p : Program} {loose : List Str} {mg mb : Str → Option Value} {n : Nat}

theorem st_vac {st : Stmt} {r : RT} (h : ∀ ns, mtS ns st r = false) : StOk prog w K G U p loose mg mb n st r := by
  intro A env h₀ L m led cells fo loc H s E Qr Q hm N hw hQ
  rw [h] at hm; cases hm
theorem st_brk {pos : Pos} : StOk prog w K G U p loose mg mb n (.Break pos) .brk := by
  intro A env h₀ L m led cells fo loc H s E Qr Q hm N hw hQ
  simp only [wpS] at hw
  exact wpAny_bind (wpAny_standAt (wpAny_pure (hQ _ _ loc m led cells fo H s hw .brk N (Ext.refl _) (Sub.refl _) (Sm.refl _))))
theorem st_cont {pos : Pos} : StOk prog w K G U p loose mg mb n (.Continue pos) .cont := by
  intro A env h₀ L m led cells fo loc H s E Qr Q hm N hw hQ
  simp only [wpS] at hw
  exact wpAny_bind (wpAny_standAt (wpAny_pure (hQ _ _ loc m led cells fo H s hw .cont N (Ext.refl _) (Sub.refl _) (Sm.refl _))))
theorem st_pass {pos : Pos} : StOk prog w K G U p loose mg mb n (.Pass pos) .pass := by
  intro A env h₀ L m led cells fo loc H s E Qr Q hm N hw hQ
  simp only [wpS] at hw
  exact wpAny_Pass (hQ _ _ loc m led cells fo H s hw .next N (Ext.refl _) (Sub.refl _) (Sm.refl _))
theorem st_raise {e c : Option Expr} {pos : Pos} : StOk prog w K G U p loose mg mb n (.Raise e c pos) .raise_ := by
  intro A env h₀ L m led cells fo loc H s E Qr Q hm N hw hQ
  simp only [wpS] at hw
theorem swapped_none {es : List Expr} {k : Nat} {tp : Pos} {e : Expr} {env : Env} (h : notTup e = true) : swappedStores [.Tuple es k tp] e env = pure none := by
  cases e <;> first | rfl | (simp [notTup] at h)
theorem st_asgs {e : Expr} {r : RE} {es : List Expr} {xs : List String} {k : Nat} {tp pos : Pos} (h : EvOk prog w K G U p loose mg mb n e r) : StOk prog w K G U p loose mg mb n (.Assign [.Tuple es k tp] e pos) (.asg (.names xs) r) := by
  intro A env h₀ L m led cells fo loc H s E Qr Q hm N hw hQ
  simp only [mtS_expr, mtS_ret1, mtS_asg1, mtS_asgs, mtS_asgAttr, mtS_asgSub, mtS_ite, mtS_for, mtS_while, mtS_try, Bool.and_eq_true] at hm
  simp only [wpS] at hw
  refine Assign_Tuple (evalS h hm.1.2 N hw ?_) (by unfold swapsWithSole; exact swaps_plain hm.1.1.1) (swapped_none hm.1.1.2)
  intro v u led₁ fo₁ H₁ s₁ q hv N' x₁ y₁ z₁
  try dsimp only at q
  split at q
  · rename_i loc' hl
    refine assign_ok (tg := .names xs) (by simp only [mtTg]; exact hm.2) N' hv hl ?_
    intro m' cells' s₂ N'' hI z₂
    exact hQ .next .next _ m' led₁ cells' fo₁ H₁ s₂ q .next N'' x₁ y₁ (z₁.trans z₂)
  · exact q.elim

theorem st_asgc {e : Expr} {r : RE} {id : Str} {x : String} {np pos : Pos} (h : EvOk prog w K G U p loose mg mb n e r) (hc : plainVal e = false) : StOk prog w K G U p loose mg mb n (.Assign [.Name id np] e pos) (.asg (.name x) r) := by
  intro A env h₀ L m led cells fo loc H s E Qr Q hm N hw hQ
  simp only [mtS_asg1, Bool.and_eq_true] at hm
  simp only [wpS] at hw
  cases mt_of hm.1.1 with
  | comp1 => simp only [wpE] at hw
  | _ => exact absurd hc (by simp [plainVal])
theorem SNow.step {A : Around} {env : Env} {h₀ : Heap} {L : Addr} {m : Str → Option Value} {led led' : Led} {cells fo : Frz} {loc : Loc} {H H' : RH} {s s' : Shared} (N : SNow prog w K p loose mg mb n A env h₀ L m led cells fo loc H s)
    (r : Rel w.params K h₀ L m led' (cells ++ fo) H' s') (x : Ext led led') : SNow prog w K p loose mg mb n A env h₀ L m led' cells fo loc H' s' := ⟨N.a, N.e, N.lo, N.l.mono x (Sub.refl _), r, N.c1, N.c2, N.c3, N.c4, N.c5⟩
theorem sub_cells {cells fo fo' : Frz} (y : Sub fo fo') : Sub (cells ++ fo) (cells ++ fo') := fun q hq => by
  rcases List.mem_append.mp hq with h | h
  · exact List.mem_append.mpr (.inl h)
  · exact List.mem_append.mpr (.inr (y q h))
theorem st_asgAttr {o e : Expr} {o' e' : RE} {x : Str} {x' : String} {ap pos : Pos} (O : ProgOk K G) (h1 : EvOk prog w K G U p loose mg mb n e e') (h2 : EvOk prog w K G U p loose mg mb n o o') :
    StOk prog w K G U p loose mg mb n (.Assign [.Attribute o x ap] e pos) (.asgAttr o' x' e') := by
  intro A env h₀ L m led cells fo loc H s E Qr Q hm N hw hQ
  simp only [mtS_asgAttr, Bool.and_eq_true] at hm
  simp only [wpS] at hw
  obtain ⟨⟨⟨hp, he⟩, ho⟩, hx⟩ := hm
  have ex := eq_of_beq hx
  subst ex
  refine plainObj_wpAny_Assign_Attribute (evalS h1 he N hw ?_) (swaps_plain hp)
  intro v u led₁ fo₁ H₁ s₁ q hv N₁ x₁ y₁ z₁
  refine evalS h2 ho N₁ q ?_
  intro ov ou led₂ fo₂ H₂ s₂ q₂ hov N₂ x₂ y₂ z₂
  try dsimp only at q₂
  split at q₂
  · rename_i H₃ hf
    refine setAttr_ok O N₂.a N₂.r hov (hv.mono x₂ (sub_cells y₂)) hf fun led₃ s₃ r₃ x₃ z₃ => ?_
    exact hQ .next .next loc m led₃ cells fo₂ H₃ s₃ q₂ .next (N₂.step r₃ x₃) (x₁.trans (x₂.trans x₃)) (y₁.trans y₂) (z₁.trans (z₂.trans z₃))
  · exact q₂.elim
theorem st_asgSub {o i e : Expr} {o' i' e' : RE} {ap pos : Pos} (h1 : EvOk prog w K G U p loose mg mb n e e') (h2 : EvOk prog w K G U p loose mg mb n o o') (h3 : EvOk prog w K G U p loose mg mb n i i') :
    StOk prog w K G U p loose mg mb n (.Assign [.Subscript o i ap] e pos) (.asgSub o' i' e') := by
  intro A env h₀ L m led cells fo loc H s E Qr Q hm N hw hQ
  simp only [mtS_asgSub, Bool.and_eq_true] at hm
  simp only [wpS] at hw
  obtain ⟨⟨⟨hp, he⟩, ho⟩, hi⟩ := hm
  refine wpAny_Assign_Subscript (evalS h1 he N hw ?_) (swaps_plain hp)
  intro v u led₁ fo₁ H₁ s₁ q hv N₁ x₁ y₁ z₁
  refine evalS h2 ho N₁ q ?_
  intro ov ou led₂ fo₂ H₂ s₂ q₂ hov N₂ x₂ y₂ z₂
  refine evalS h3 hi N₂ q₂ ?_
  intro iv iu led₃ fo₃ H₃ s₃ q₃ hiv N₃ x₃ y₃ z₃
  try dsimp only at q₃
  split at q₃
  · rename_i H₄ hf
    refine setItem_ok N₃.a N₃.r (hov.mono x₃ (sub_cells y₃)) hiv (hv.mono (x₂.trans x₃) (sub_cells (y₂.trans y₃))) hf fun led₄ s₄ r₄ x₄ z₄ => ?_
    exact hQ .next .next loc m led₄ cells fo₃ H₄ s₄ q₃ .next (N₃.step r₄ x₄) (x₁.trans (x₂.trans (x₃.trans x₄))) (y₁.trans (y₂.trans y₃)) (z₁.trans (z₂.trans (z₃.trans z₄)))
  · exact q₃.elim
theorem st_for {t it : Expr} {tg : RTg} {it' : RE} {body : List Stmt} {body' : List RT} {pos : Pos} (h1 : EvOk prog w K G U p loose mg mb n it it') (h2 : SsOk prog w K G U p loose mg mb n body body') :
    StOk prog w K G U p loose mg mb n (.For t it body [] pos) (.for_ tg it' body') := by
  intro A env h₀ L m led cells fo loc H s E Qr Q hm N hw hQ
  simp only [wpS] at hw
theorem st_while {t : Expr} {t' : RE} {body : List Stmt} {body' : List RT} {pos : Pos} (h1 : TsOk prog w K G U p loose mg mb n t t') (h2 : SsOk prog w K G U p loose mg mb n body body') :
    StOk prog w K G U p loose mg mb n (.While t body [] pos) (.while_ t' body') := by
  intro A env h₀ L m led cells fo loc H s E Qr Q hm N hw hQ
  simp only [wpS] at hw
theorem st_try {hs : List ExceptHandler} {body : List Stmt} {body' : List RT} {pos : Pos} (h2 : SsOk prog w K G U p loose mg mb n body body') :
    StOk prog w K G U p loose mg mb n (.Try body hs [] [] pos) (.try_ body') := by
  intro A env h₀ L m led cells fo loc H s E Qr Q hm N hw hQ
  simp only [wpS] at hw

theorem ss_all {ss : List Stmt} : ∀ {rs : List RT}, (∀ st ∈ ss, ∀ r, StOk prog w K G U p loose mg mb n st r) → SsOk prog w K G U p loose mg mb n ss rs := by
  induction ss with
  | nil =>
    intro rs h
    cases rs with
    | nil => exact ss_nil
    | cons r rs =>
      intro A env h₀ L m led cells fo loc H s E Qr Q hm N hw hQ
      exact absurd hm Bool.false_ne_true
  | cons e es ih =>
    intro rs h
    cases rs with
    | nil =>
      intro A env h₀ L m led cells fo loc H s E Qr Q hm N hw hQ
      exact absurd hm Bool.false_ne_true
    | cons r rs => exact ss_cons (h e (.head _) r) (ih fun e he => h e (.tail _ he))

theorem st_of {st : Stmt} {r : RT} (h : ∀ ns, mtS ns st r = true → StOk prog w K G U p loose mg mb n st r) : StOk prog w K G U p loose mg mb n st r := by
  intro A env h₀ L m led cells fo loc H s E Qr Q hm N hw hQ
  exact h _ hm hm N hw hQ
theorem stOk' (O : ProgOk K G) (hU : UOk prog w K p loose mg mb U n) : ∀ (N : Nat) (st : Stmt), sizeOf st < N → ∀ r, StOk prog w K G U p loose mg mb n st r := by
  intro N
  induction N with
  | zero => intro e h; exact absurd h (Nat.not_lt_zero _)
  | succ N ih =>
    intro st he r
    have all : ∀ ss : List Stmt, sizeOf ss ≤ N → ∀ {rs}, SsOk prog w K G U p loose mg mb n ss rs := fun ss h {rs} => ss_all fun st hm r => ih st (Nat.lt_of_lt_of_le (List.sizeOf_lt_of_mem hm) h) r
    have ev : ∀ e r, EvOk prog w K G U p loose mg mb n e r := fun e r => evalOk O hU e r
    have ts : ∀ e r, TsOk prog w K G U p loose mg mb n e r := fun e r => testOk O hU e r
    refine @st_of prog w K G U p loose mg mb n st r ?_
    intro ns hm
    cases mtS_of hm with
    | expr => exact @st_expr prog w K G U p loose mg mb n _ _ _ (ev _ _)
    | ret0 => exact @st_ret0 prog w K G U p loose mg mb n _
    | ret => exact @st_ret prog w K G U p loose mg mb n _ _ _ (ev _ _)
    | asg h' =>
      rename_i id np pos e x r
      cases hc : plainVal e with
      | true => exact @st_asg prog w K G U p loose mg mb n _ _ _ _ _ _ (ev _ _) hc
      | false => exact @st_asgc prog w K G U p loose mg mb n _ _ _ _ _ _ (ev _ _) hc
    | asgs => exact @st_asgs prog w K G U p loose mg mb n _ _ _ _ _ _ _ (ev _ _)
    | asgAttr => exact @st_asgAttr prog w K G U p loose mg mb n _ _ _ _ _ _ _ _ O (ev _ _) (ev _ _)
    | asgSub => exact @st_asgSub prog w K G U p loose mg mb n _ _ _ _ _ _ _ _ (ev _ _) (ev _ _) (ev _ _)
    | ite =>
      simp only [Stmt.If.sizeOf_spec] at he
      exact @st_ite prog w K G U p loose mg mb n _ _ _ _ _ _ _ (ts _ _) (all _ (by omega)) (all _ (by omega))
    | for_ =>
      simp only [Stmt.For.sizeOf_spec] at he
      exact @st_for prog w K G U p loose mg mb n _ _ _ _ _ _ _ (ev _ _) (all _ (by omega))
    | while_ =>
      simp only [Stmt.While.sizeOf_spec] at he
      exact @st_while prog w K G U p loose mg mb n _ _ _ _ _ (ts _ _) (all _ (by omega))
    | try_ =>
      simp only [Stmt.Try.sizeOf_spec] at he
      exact @st_try prog w K G U p loose mg mb n _ _ _ _ (all _ (by omega))
    | raise_ => exact @st_raise prog w K G U p loose mg mb n _ _ _
    | brk => exact @st_brk prog w K G U p loose mg mb n _
    | cont => exact @st_cont prog w K G U p loose mg mb n _
    | pass => exact @st_pass prog w K G U p loose mg mb n _
theorem ssOk (O : ProgOk K G) (hU : UOk prog w K p loose mg mb U n) (ss : List Stmt) (rs : List RT) : SsOk prog w K G U p loose mg mb n ss rs := ss_all fun st _ r => stOk' O hU _ st (Nat.lt_succ_self _) r
theorem uok (O : ProgOk K G) : ∀ n, UOk prog w K p loose mg mb (callU G n) n
  | 0 => by
    intro a hm hv r hw
    simp only [callU] at hw
  | n + 1 => uok_succ fun ss rs => ssOk O (uok O n) ss rs
end
end Mine

namespace Mine
open PySem PySem.W PySem.Calls PyProof.Rows PySem.SeqAt

section
variable {prog : Program} {w : World} {A : Around} {s : Shared} {R : Result → Shared → Prop} {name qual : Str} {params : Arguments} {body : List Stmt} {scope : Scope} {dV kV doc pm cdv ct : Value} {an : Option Addr} {fo : Obj} {f : Addr} {args : Args} {binds : List (Str × Value)}
/-- a call from the very top -/
theorem callT_cells (hlim : s.heap.NoLimit)
    (ho : s.heap.get? f = some fo) (hd : fo.data = .func (fnX name qual params body scope [] dV kV doc pm an cdv ct)) (hcd : s.heap.CodeRec cdv qual) (hroom : A.depth < recursionLimit)
    (hbind : BindsTo s (fnX name qual params body scope [] dV kV doc pm an cdv ct) args binds)
    (hkind : ∀ n, ∀ x ∈ binds, scope.names.lookup x.1 = some .local ∨ (scope.names.lookup x.1 = some .cell ∧ ((cellsFrom n scope.names []).lookup x.1).isSome = true))
    (hnd : ((cellsFrom 0 scope.names []).map (·.1)).Nodup)
    (h : ∀ h₁ tk cells, Fr s.heap s.heap.objs.size h₁ (bindL (envOfC qual scope s.heap.objs.size f cdv).kindOf binds fun _ => none) → News s.heap s.heap.objs.size h₁ cells →
      CellsAre (bindC (envOfC qual scope s.heap.objs.size f cdv).kindOf binds fun _ => none) (cellsFrom (s.heap.objs.size + 1) scope.names []) cells →
      wpAny (model prog w) (A.deeper (envOfC qual scope s.heap.objs.size f cdv)) (execs body (envOfC qual scope s.heap.objs.size f cdv))
        (fun fl s' => R (.ok (.ret (match fl with | .ret v => v | _ => .none))) s')
        (fun e s' => wpAny (model prog w) (A.deeper (envOfC qual scope s.heap.objs.size f cdv)) (leaving (envOfC qual scope s.heap.objs.size f cdv) e) (fun _ s'' => R (.error e) s'') (fun e' s'' => R (.error e') s'') s')
        { s with heap := h₁, toks := tk })
    (hco : scope.isCoroutine = false := by rfl) (hgen : scope.isGenerator = false := by rfl) (hk : scope.kind = .function := by rfl) : codeAny (model prog w) A (.call (.ref f) args) R s := by
  refine codeAny_call_function hroom ho hd hco hgen rfl hcd (hbind _ _ _ _ ?_)
  refine wpAny_newFunctionEnv_cells hk (hkind _) fun env' he s' x => ?_
  subst he
  refine ⟨hlim.keeps x.toInCall.keep, codeAny_func ?_⟩
  obtain ⟨h₁, tk, rfl, _⟩ := x.done
  have hk₁ := x.toInCall.keep
  obtain ⟨cells, NC, Y⟩ := Cl.news (h₀ := s.heap) (Nat.le_refl _) fun n c hm => ⟨x.cell n c (lookup_of_mem_nodup (cellsFrom_names scope.names 0 (s.heap.objs.size + 1) [] [] rfl ▸ hnd) hm), x.above n c hm⟩
  exact h h₁ tk cells ⟨x.toInCall.ns, hk₁, Nat.le_refl _⟩ NC Y
end

section
variable {prog : Program} {w : World} {K : Frag} {G : RProg} {p : Program} {loose : List Str} {mg mb : Str → Option Value} {n : Nat}
theorem uok_top {s : Shared} {Qr : PV} {R : Result → Shared → Prop} {d : RFn} {f : Addr} {qual : Str} {args : List RV} {vals : List Value} (O : ProgOk K G) (hn : n ≤ 50)
    (X : K.In s.heap) (T : TopRead p loose mg mb s.heap) (sr : s.heap.NoSeer) (tr : prog.given.tree = none)
    (hm : mtFn K f qual d = true) (hv : VsRel K [] [] args vals) (hw : callU G (n + 1) d args [] Qr)
    (hQ : ∀ v u led fr H s', Qr v H → VRel K led fr v u → (∀ b o, s.heap.get? b = some o → s'.heap.get? b = some o) → Sm s s' → R (.ok (.ret u)) s') :
    codeAny (model prog w) callerA (.call (.ref f) ⟨vals, []⟩) R s := by
  unfold mtFn at hm
  split at hm
  · rename_i c od fd osl hK
    simp only [Bool.and_eq_true, decide_eq_true_eq] at hm
    obtain ⟨⟨⟨⟨⟨⟨⟨⟨⟨⟨⟨⟨⟨⟨⟨⟨⟨⟨⟨⟨hgl, hcl⟩, hbl⟩, hqn⟩, hcd⟩, hgen⟩, hcor⟩, hkd⟩, hnn⟩, hfree⟩, hpo⟩, hva⟩, hko⟩, hkw⟩, hpar⟩, hpw⟩, hpn⟩, hdl⟩, hdf⟩, hkd2⟩, hbody⟩ := hm
    have hgl := eq_of_beq hgl
    have hcl : fd.closure = [] := by simpa using hcl
    have hbl := eq_of_beq hbl
    have hqn := eq_of_beq hqn
    have hgen : fd.scope.isGenerator = false := by simpa using hgen
    have hcor : fd.scope.isCoroutine = false := by simpa using hcor
    have hkd := eq_of_beq hkd
    have hpo : fd.params.posonlyargs = [] := by simpa using hpo
    have hva : fd.params.vararg = none := by simpa using hva
    have hko : fd.params.kwonlyargs = [] := by simpa using hko
    have hkw : fd.params.kwarg = none := by simpa using hkw
    have hpar := eq_of_beq hpar
    split at hbody
    · rename_i b hb
      have hfd : fd = fnX fd.name fd.qualname fd.params b fd.scope [] fd.defaults fd.kwdefaults fd.doc fd.pyModule fd.annotations fd.code fd.closureTuple := by
        cases fd; simp_all
      simp only [callU] at hw
      split at hw
      · rename_i loc hloc
        unfold bindR at hloc
        split at hloc
        · rename_i hlen
          cases hloc
          have Xs : K.In s.heap := X
          -- the defaults
          obtain ⟨ds, hds, hdl', hrd⟩ : ∃ ds : List Value, VsRel K [] [] d.dflts ds ∧ ds.length = d.dflts.length ∧
              ∀ (M : Model) (A : Around) (E : Value → Shared → Prop) (Q : Option (Array Value) → Shared → Prop), (∀ o, (o.getD #[]).toList = ds → Q o s) → wpAny M A (seqItems? fd.defaults) Q E s := by
            split at hdf
            · rename_i hdn
              have : d.dflts = [] := by simpa using hdf
              rw [this, hdn]
              exact ⟨[], .nil, rfl, fun M A E Q hq => wpAny_of_eq (show seqItems? Value.none = pure none from rfl) (hq none rfl)⟩
            · rename_i t ht
              split at hdf
              · rename_i cc vs' k' sl' hKt
                simp only [Bool.and_eq_true, decide_eq_true_eq] at hdf
                refine ⟨vs'.toList, VsRel_of_mtV 4 _ _ hdf.1.2 hdf.2, hdf.1.2, fun M A E Q hq => ?_⟩
                rw [ht]
                exact wpAny_seqItems (Xs _ _ hKt) rfl (hq _ rfl)
              · cases hdf
            · cases hdf
          have hargs := hv.length
          have hnames : (fd.params.args.map (·.arg)).length = d.params.length := by rw [hpar, List.length_map]
          have hndn : (fd.params.args.map (·.arg)).Nodup := by
            rw [hpar]
            exact nodup_names hpn
          have hall := hv.append (hds.drop (d.dflts.length - (d.params.length - args.length)))
          have hbinds := binds_ok (s := s) (fd := fd) (vals := vals) (ds := ds) hpo hva hko hkw hndn (by rw [hnames, ← hargs]; exact hlen.1) (by rw [hnames, hdl', ← hargs]; exact hlen.2) (by rw [hnames, hdl']; exact hdl) hrd
          rw [hnames, hdl', ← hargs] at hbinds
          generalize hbn : (fd.params.args.map (·.arg)).zip (vals ++ ds.drop (d.dflts.length - (d.params.length - args.length))) = binds at hbinds
          have hws : (vals ++ ds.drop (d.dflts.length - (d.params.length - args.length))).length = d.params.length := by
            rw [List.length_append, List.length_drop, hdl', ← hargs]; have := hlen.1; have := hlen.2; omega
          have hbf : binds.map (·.1) = fd.params.args.map (·.arg) := by
            rw [← hbn, List.map_fst_zip]; rw [hnames, hws]; exact Nat.le_refl _
          have hbnd : (binds.map (·.1)).Nodup := by rw [hbf]; exact hndn
          have hkinds : ∀ x ∈ binds, isW (fd.scope.names.lookup x.1) = true := fun x hx => by
            have : x.1 ∈ fd.params.args.map (·.arg) := hbf ▸ List.mem_map_of_mem hx
            obtain ⟨q, hq, e⟩ := List.mem_map.mp this
            rw [← e]
            exact List.all_eq_true.mp hpw q hq
          have cellName : ∀ x, fd.scope.names.lookup x = some .cell → ∀ k, ∃ c, (cellsFrom k fd.scope.names []).lookup x = some c := fun x hx k => by
            have := cellsFrom_some fd.scope.names k [] (.inl hx)
            exact Option.isSome_iff_exists.mp this
          have cellFst : ∀ k, ((cellsFrom k fd.scope.names []).map (·.1)).Nodup := fun k => by
            rw [cellsFrom_ins]
            simp only [List.map_nil, List.append_nil]
            refine nodup_rev ?_
            exact hnn.sublist (List.Sublist.map _ List.filter_sublist)
          rw [hfd] at hK hbinds
          refine callT_cells T.nolimit (Xs _ _ hK) rfl (codeRec_of Xs hcd) (by decide +kernel) hbinds (fun k x hx => ?_) (cellFst 0) ?_ hcor hgen hkd
          · have hk := hkinds x hx
            simp only [isW, Bool.or_eq_true, beq_iff_eq] at hk
            rcases hk with hk | hk
            · exact .inl hk
            · obtain ⟨c, hc⟩ := cellName _ hk k
              exact .inr ⟨hk, by rw [hc]; rfl⟩
          · intro h₁ tk cells F' N' CA
            generalize hL' : s.heap.objs.size = L' at F' N' CA ⊢
            have B' := below_caller s.heap
            have cge := cellsFrom_ge fd.scope.names (L' + 1) [] (fun q hq => by cases hq) .nil
            have cmem : ∀ x c, (cellsFrom (L' + 1) fd.scope.names []).lookup x = some c → (x, c) ∈ cellsFrom (L' + 1) fd.scope.names [] := fun x c e => lookup_mem e
            have cbig : ∀ q ∈ cells, L' < q.1 := fun q hq => by
              have : q.1 ∈ (cellsFrom (L' + 1) fd.scope.names []).map (·.2) := by rw [← cellsAre_fst CA]; exact List.mem_map_of_mem hq
              obtain ⟨z, hz, e⟩ := List.mem_map.mp this
              rcases cge.2 z hz with h | h
              · cases h
              · rw [← e]; exact h
            have kindEq : ∀ x, (envOfC fd.qualname fd.scope L' f fd.code).kindOf x = fd.scope.names.lookup x := fun x => rfl
            have hAct : Act prog K p loose mg mb (callerA.deeper (envOfC fd.qualname fd.scope L' f fd.code)) (envOfC fd.qualname fd.scope L' f fd.code) s.heap L' n :=
              ⟨⟨callerA, s.heap, [], B', Around.frames_deeper B'.stack⟩, rfl, hkd, hgen, hcor, rfl, rfl, X, T, sr, tr, rfl,
                by show 1 + 300 + 1 + 10 * n + 115 + 5 < 1000; omega, by show 4 + 3 + 40 * n + 195 + 5 < 9900; omega⟩
            have hfr : Sub [] (cells ++ []) := fun q hq => by cases hq
            have NW : SNow prog w K p loose mg mb n (callerA.deeper (envOfC fd.qualname fd.scope L' f fd.code)) (envOfC fd.qualname fd.scope L' f fd.code) s.heap L' (bindL (envOfC fd.qualname fd.scope L' f fd.code).kindOf binds fun _ => none) [] cells []
                (d.params.zip (args ++ d.dflts.drop (d.dflts.length - (d.params.length - args.length)))) [] { s with heap := h₁, toks := tk } := by
              refine ⟨hAct, ⟨hkd, rfl, rfl, rfl, fun x k h => .inl h, fun x hx => ?_, .inl ⟨rfl, rfl⟩⟩, rfl, ?_, ⟨F', ?_, .nil, ?_, ⟨rfl, fun i o e => by simp at e⟩⟩, ?_, ?_, ?_, ?_, cellsAre_data CA⟩
              · rcases hx with hx | hx
                · exact cellName x hx (L' + 1)
                · have := List.all_eq_true.mp hfree (x, .free) (lookup_mem hx)
                  simp at this
              · intro x v hx
                obtain ⟨j, h1, h2⟩ := zip_lookup (α := Unit) hx
                obtain ⟨u, hu, hvr⟩ := hall.get j v h2
                have hmem : (Str.ofString x, u) ∈ binds := by
                  rw [← hbn, hpar]
                  exact zip_mem (by rw [List.getElem?_map, h1]; rfl) hu
                refine ⟨fun hk => ⟨u, bindL_at binds _ hbnd hmem hk, hvr.mono (Ext.refl _) hfr⟩, fun hk => ?_⟩
                have hk : (envOfC fd.qualname fd.scope L' f fd.code).kindOf (Str.ofString x) = some .cell := by
                  rcases hk with hk | hk
                  · exact hk
                  · have := List.all_eq_true.mp hfree (Str.ofString x, .free) (lookup_mem hk)
                    simp at this
                obtain ⟨c, hc⟩ := cellName _ hk (L' + 1)
                obtain ⟨o, ho, hod⟩ := cellsAre_at CA (cmem _ _ hc)
                refine ⟨c, o, u, hc, List.mem_append.mpr (.inl ho), ?_, hvr.mono (Ext.refl _) hfr⟩
                rw [hod, bindC_at binds _ hbnd hmem hk]
              · intro q hq
                simp only [List.flatten_nil, List.nil_append, List.append_nil] at hq
                exact N' q hq
              · intro q hq hin
                simp at hin
              · rw [cellsAre_fst CA]; exact cge.1
              · intro q hq hin
                cases hq
              · intro x hx
                obtain ⟨c, hc⟩ := cellName x hx (L' + 1)
                obtain ⟨o, ho, hod⟩ := cellsAre_at CA (cmem _ _ hc)
                exact ⟨c, o, _, hc, ho, hod⟩
              · intro x y c h1 h2
                exact snd_inj cge.1 (cmem _ _ h1) (cmem _ _ h2)
            refine ssOk O (uok O n) b d.body hbody NW hw ?_
            intro fl flow loc' m' led₁ cells₁ fo₁ H₁ s₁ q hf N₁ x y z
            have hI : SubI K (cells₁ ++ fo₁) fo₁ := fun a' o hne i => by
              rcases i with i | i
              · rcases List.mem_append.mp i with i | i
                · obtain ⟨v, e⟩ := N₁.c5 _ i
                  exact absurd e (hne v)
                · exact .inl i
              · exact .inr i
            have Z : Sm s s₁ := Sm.trans ((Sm.refl s).with h₁ tk) z
            cases hf with
            | next => exact hQ .none .none led₁ fo₁ H₁ s₁ q .none N₁.r.F.keep Z
            | brk => exact hQ .none .none led₁ fo₁ H₁ s₁ q .none N₁.r.F.keep Z
            | cont => exact hQ .none .none led₁ fo₁ H₁ s₁ q .none N₁.r.F.keep Z
            | ret hv' => exact hQ _ _ led₁ fo₁ H₁ s₁ q (hv'.monoI hI) N₁.r.F.keep Z
        · cases hloc
      · exact hw.elim
    · cases hbody
  · cases hm
end
end Mine

namespace Mine
open PySem PySem.W PySem.W.X PySem.Calls PyProof.Rows PySem.SeqAt

theorem good_true {l : OpenLaw} {cl : Str → Option Addr} {mean : ExcName → Option Value} {zs : List Int} {s₁ s' : Shared} (hk : ∀ b o, s₁.heap.get? b = some o → s'.heap.get? b = some o) (z : Sm s₁ s') (hg : s₁.gens = #[]) :
    GoodW l.row.claim cl mean [ofPy (PyData.list (zs.map PyData.int))] s₁ (.ok (.ret (.bool true))) s' := by
  refine ⟨.inl ⟨.bool true, .bool true, [], rfl, fun cls => rfl, .bool true, ?_, fun _ => ⟨.nil, fun a h => by cases h⟩⟩, hk, z.2.2, z.1.trans hg⟩
  refine postW_of (X := true) (by show WShape.has [] (WData.bool true) WShape.bool = true; first | rfl | decide +kernel | wrow_shape | simp [WShape.has]) ?_ rfl
  show (WTm.eq .res (.lit (.bool true))).value [] _ = _
  first | rfl | decide +kernel | wtm_val | simp [WTm.value]

theorem vs_ints {K : Frag} {led : Led} {fr : Frz} {vs : List Value} {zs : List Int} (h : IntsAre vs zs) : VsRel K led fr (zs.map RV.int) vs := by
  induction h with
  | nil => exact .nil
  | cons n t _ ih => exact .cons (.int n t) ih

theorem lookup_app {K : Frag} {a b : Addr} {o o' : Obj} (h : (K ++ [(a, o)]).lookup b = some o') : K.lookup b = some o' ∨ (b = a ∧ o' = o) := by
  induction K with
  | nil =>
    simp only [List.nil_append, List.lookup_cons] at h
    cases hq : b == a with
    | true => rw [hq] at h; cases h; exact .inr ⟨eq_of_beq hq, rfl⟩
    | false => rw [hq] at h; cases h
  | cons q K ih =>
    obtain ⟨q1, q2⟩ := q
    simp only [List.cons_append, List.lookup_cons] at h ⊢
    cases hq : b == q1 with
    | true => rw [hq] at h; exact .inl h
    | false => rw [hq] at h; exact ih h
theorem in_app {K : Frag} {h : Heap} {a : Addr} {o : Obj} (X : K.In h) (g : h.get? a = some o) : Frag.In (K ++ [(a, o)]) h := fun b o' e => by
  rcases lookup_app e with e | ⟨rfl, rfl⟩
  · exact X _ _ e
  · exact g
theorem lookup_app_at {K : Frag} {h : Heap} {a : Addr} {o : Obj} (X : K.In h) (g : h.get? a = some o) : (K ++ [(a, o)]).lookup a = some o := by
  have aux : ∀ K : Frag, (∀ o', K.lookup a = some o' → o' = o) → (K ++ [(a, o)]).lookup a = some o := fun K => by
    induction K with
    | nil => intro _; simp
    | cons q K ih =>
      obtain ⟨q1, q2⟩ := q
      intro hq
      simp only [List.cons_append, List.lookup_cons] at hq ⊢
      cases e : a == q1 with
      | true => rw [e] at hq; exact congrArg some (hq q2 rfl)
      | false => rw [e] at hq; exact ih hq
  exact aux K fun o' e => by have := X _ _ e; rw [g] at this; exact (Option.some.inj this).symm

/-- a law, from what it does in ours -/
theorem law_top {l : OpenLaw} {w : World} {K : Frag} {G : RProg} {p : Program} {loose : List Str} {mean : ExcName → Option Value} {mg mb : Str → Option Value} {n : Nat} {s₁ : Shared} {a fa : Addr} {vs : List Value} {zs : List Int} {cl : Str → Option Addr} {mean' : ExcName → Option Value} {d : RFn} {nm : Str}
    (X : K.In s₁.heap) (T : Top p loose mean mg mb s₁.heap) (hi : importsNone p = true) (tr : l.row.prog.given.tree = none) (hg : s₁.gens = #[])
    (hL : s₁.heap.IsList a vs.toArray) (hI : IntsAre vs zs) (hnm : nm = Str.ofString "law") (hmg : mg nm = some (.ref fa))
    (hd : G.funs.lookup "law" = some d) (hm : ∀ a o, mtProg (K ++ [(a, o)]) G = true) (hn : n ≤ 50)
    (hw : callU G (n + 1) d [.arg (zs.map RV.int)] [] fun v _ => v = .bool true) :
    codeAny (model l.row.prog w) callerA (.call (.ref fa) ⟨[.ref a], []⟩) (GoodW l.row.claim cl mean' [ofPy (PyData.list (zs.map PyData.int))] s₁) s₁ := by
  obtain ⟨o, ho, hc, k, hdt⟩ := hL
  have X' := in_app X ho
  have O := progOk (hm a o)
  obtain ⟨f, hf, hmt⟩ := O.fn "law" d hd
  have := mg_of X' T.g hf
  rw [hnm, this] at hmg
  cases hmg
  refine uok_top (p := p) (loose := loose) (mg := mg) (mb := mb) O hn X' (topRead_of T) (T.seer hi) tr hmt (.cons (.arg (.inr (lookup_app_at X ho)) hc hdt (vs_ints hI)) .nil) hw ?_
  intro v u led fr H s' q hv hk z
  subst q
  cases hv
  exact good_true hk z hg

end Mine

set_option maxHeartbeats 0
namespace Mine
open PySem PySem.W PySem.W.X PySem.Calls PyProof.Rows
def L01.g_partner : RFn := { params := ["bay"], dflts := [], body := [
  .ite (.bin .Mod (.loc "bay") (.const (.int 2))) [.ret (some (.bin .Sub (.loc "bay") (.const (.int 1))))] [],
  .ret (some (.bin .Add (.loc "bay") (.const (.int 1))))] }
def L01.g_above : RFn := { params := ["slot"], dflts := [], body := [
  .asg (.names ["bay", "row", "tier"]) (.loc "slot"),
  .ret (some (.tup [(.loc "bay"), (.loc "row"), (.bin .Add (.loc "tier") (.const (.int 1)))]))] }
def L01.g_gap : RFn := { params := ["one", "two"], dflts := [], body := [
  .ret (some (.call (.glb "max") [(.call (.glb "abs") [(.bin .Sub (.sub (.loc "one") (.const (.int 0))) (.sub (.loc "two") (.const (.int 0))))]), (.call (.glb "abs") [(.bin .Sub (.sub (.loc "one") (.const (.int 1))) (.sub (.loc "two") (.const (.int 1))))]), (.call (.glb "abs") [(.bin .Sub (.sub (.loc "one") (.const (.int 2))) (.sub (.loc "two") (.const (.int 2))))])]))] }
def L01.g_law : RFn := { params := ["script"], dflts := [], body := [
  .ite (.cmp (.call (.glb "len") [(.loc "script")]) [.Lt] [(.const (.int 3))]) [.ret (some (.const (.bool true)))] [],
  .asg (.name "bay") (.bin .Mod (.sub (.loc "script") (.const (.int 0))) (.const (.int 6))),
  .asg (.name "steps") (.bin .Add (.const (.int 1)) (.bin .Mod (.sub (.loc "script") (.const (.int 1))) (.const (.int 3)))),
  .asg (.name "more") (.bin .Mod (.sub (.loc "script") (.const (.int 2))) (.const (.int 3))),
  .asg (.name "one") (.tup [(.loc "bay"), (.const (.int 1)), (.const (.int 2))]),
  .asg (.name "two") (.tup [(.bin .Add (.loc "bay") (.loc "steps")), (.bin .Add (.bin .Add (.const (.int 1)) (.loc "steps")) (.loc "more")), (.const (.int 2))]),
  .ite (.cmp (.list [(.call (.glb "gap") [(.loc "one"), (.loc "two")]), (.call (.glb "gap") [(.loc "two"), (.loc "one")])]) [.NotEq] [(.list [(.bin .Add (.loc "steps") (.loc "more")), (.bin .Add (.loc "steps") (.loc "more"))])]) [.ret (some (.const (.bool false)))] [],
  .ite (.cmp (.call (.glb "gap") [(.call (.glb "above") [(.loc "one")]), (.loc "one")]) [.NotEq] [(.const (.int 1))]) [.ret (some (.const (.bool false)))] [],
  .ret (some (.cmp (.call (.glb "gap") [(.loc "one"), (.tup [(.call (.glb "partner") [(.loc "bay")]), (.const (.int 1)), (.const (.int 2))])]) [.Eq] [(.const (.int 1))]))] }
def L01.g : RProg where
  funs := [("partner", L01.g_partner), ("above", L01.g_above), ("gap", L01.g_gap), ("law", L01.g_law)]
  clss := []
  vals := []
theorem fm (a : Int) (m : Nat) (h : 0 < m) : 0 ≤ Int.fmod a m ∧ Int.fmod a m < m := ⟨Int.fmod_nonneg_of_pos _ (by omega), Int.fmod_lt_of_pos _ (by omega)⟩
def rest : List RT := L01.g_law.body.drop 4
def Small : Prop := 3 ≤ sizeLine ∧ 3 ≤ sizeLine ∧ true = true ∧ true = true ∧ true = true ∧ true = true ∧ true = true ∧ true = true ∧ true = true ∧ true = true ∧ true = true ∧ true = true ∧ 2 ≤ sizeLine ∧ 2 ≤ sizeLine ∧ true = true ∧ true = true ∧ 3 ≤ sizeLine ∧ true = true ∧ true = true ∧ true = true ∧ true = true ∧ true = true ∧ true = true ∧ (2 : Int) ≠ 0 ∧ 3 ≤ sizeLine ∧ true = true ∧ true = true ∧ true = true ∧ true = true ∧ RV.bool true = RV.bool true
theorem small : Small := ⟨by decide, by decide, rfl, rfl, rfl, rfl, rfl, rfl, rfl, rfl, rfl, rfl, by decide, by decide, rfl, rfl, by decide, rfl, rfl, rfl, rfl, rfl, rfl, by decide, by decide, rfl, rfl, rfl, rfl, rfl⟩
theorem rest_ok (x y z : Int) (hx : x = 0 ∨ x = 1 ∨ x = 2 ∨ x = 3 ∨ x = 4 ∨ x = 5) (hy : y = 0 ∨ y = 1 ∨ y = 2) (hz : z = 0 ∨ z = 1 ∨ z = 2) (l : List RV) : wpSs L01.g (callU L01.g 10) rest [("script", .arg l), ("bay", .int x), ("steps", .int (1 + y)), ("more", .int z)] [] fun fl _ _ => retV fl = .bool true := by
  rcases hx with rfl | rfl | rfl | rfl | rfl | rfl <;> rcases hy with rfl | rfl | rfl <;> rcases hz with rfl | rfl | rfl <;> (refine Eq.mpr ?_ small; kernel_rfl)
theorem rest_ok' (x y z : Int) (hx : 0 ≤ x ∧ x < 6) (hy : 0 ≤ y ∧ y < 3) (hz : 0 ≤ z ∧ z < 3) (l : List RV) : wpSs L01.g (callU L01.g 10) rest [("script", .arg l), ("bay", .int x), ("steps", .int (1 + y)), ("more", .int z)] [] fun fl _ _ => retV fl = .bool true :=
  rest_ok x y z (by omega) (by omega) (by omega) l
theorem three (zs : List Int) (h : ¬ (zs.length : Int) < 3) : ∃ a b c l, zs = a :: b :: c :: l := by
  cases zs with
  | nil => exact absurd (by simp) h
  | cons a zs => cases zs with
    | nil => exact absurd (by simp) h
    | cons b zs => cases zs with
      | nil => exact absurd (by simp) h
      | cons c l => exact ⟨a, b, c, l, rfl⟩
theorem core (zs : List Int) (h : ¬ (63 : Int) < zs.length) : callU L01.g (10 + 1) L01.g_law [.arg (zs.map RV.int)] [] fun v _ => v = .bool true := by
  show wpSs L01.g (callU L01.g 10) L01.g_law.body [("script", .arg (zs.map RV.int))] [] fun fl _ _ => retV fl = .bool true
  have hl : (zs.length : Int) < 9223372036854775808 := by omega
  have hm : ((zs.map RV.int).length : Int) < 2 ^ 63 := by rw [List.length_map]; omega
  by_cases h3 : (zs.length : Int) < 3
  · refine And.intro rfl (And.intro hm ?_)
    have e : (decide (((zs.map RV.int).length : Int) < 3)) = true := by rw [List.length_map]; exact decide_eq_true h3
    refine Eq.mpr (if_pos e) ?_
    exact rfl
  · have e : (decide (((zs.map RV.int).length : Int) < 3)) = false := by rw [List.length_map]; exact decide_eq_false h3
    refine And.intro rfl (And.intro hm ?_)
    obtain ⟨a, b, c, l, rfl⟩ := three zs h3
    have h1 := fm a 6 (by decide)
    have h2 := fm b 3 (by decide)
    have h4 := fm c 3 (by decide)
    have r := rest_ok' (Int.fmod a 6) (Int.fmod b 3) (Int.fmod c 3) h1 h2 h4 ((a :: b :: c :: l).map RV.int)
    have i0 : idxR 0 ((a :: b :: c :: l).map RV.int).length = some 0 := by unfold idxR; rw [if_pos (by simp; omega)]; rfl
    have i1 : idxR 1 ((a :: b :: c :: l).map RV.int).length = some 1 := by unfold idxR; rw [if_pos (by simp; omega)]; rfl
    have i2 : idxR 2 ((a :: b :: c :: l).map RV.int).length = some 2 := by unfold idxR; rw [if_pos (by simp; omega)]; rfl
    show wpSs L01.g (callU L01.g 10) (L01.g_law.body.drop 1) [("script", .arg ((a :: b :: c :: l).map RV.int))] [] fun fl _ _ => retV fl = .bool true
    have u1 : subR [] (.arg ((a :: b :: c :: l).map RV.int)) (.int 0) = some (.int a) := by simp only [subR, i0]; rfl
    have u2 : subR [] (.arg ((a :: b :: c :: l).map RV.int)) (.int 1) = some (.int b) := by simp only [subR, i1]; rfl
    have u3 : subR [] (.arg ((a :: b :: c :: l).map RV.int)) (.int 2) = some (.int c) := by simp only [subR, i2]; rfl
    generalize (a :: b :: c :: l).map RV.int = ll at u1 u2 u3 r ⊢
    have r' : wpSs L01.g (callU L01.g 10) (L01.g_law.body.drop 2) [("script", .arg ll), ("bay", .int (Int.fmod a 6))] [] fun fl _ _ => retV fl = .bool true := by
      have r'' : wpSs L01.g (callU L01.g 10) (L01.g_law.body.drop 3) [("script", .arg ll), ("bay", .int (Int.fmod a 6)), ("steps", .int (1 + Int.fmod b 3))] [] fun fl _ _ => retV fl = .bool true := by
        show match subR [] (.arg ll) (.int 2) with | some v => _ | none => _
        rw [u3]
        exact And.intro (by decide) r
      show match subR [] (.arg ll) (.int 1) with | some v => _ | none => _
      rw [u2]
      exact And.intro (by decide) r''
    show match subR [] (.arg ll) (.int 0) with | some v => _ | none => _
    rw [u1]
    exact And.intro (by decide) r'
end Mine
open PySem PySem.W PySem.W.X PyProof.Rows
set_option maxHeartbeats 0 in
theorem PySem.Challenge.cw_ui0503_01_holds : PySem.Challenge.rw_ui0503_01.Holds := by
  w_on; o_law; k_head; (case hw => w_witness2)
  k_fill
  intro w s₀ s₁ mg mb G Y fa o pm cd doc dV kV ho hd hcd hD hmg hg args vals as hpre hlay hrd hwl hlo
  have KX := kIn_of Y
  clear hD hcd hd
  refine Ground.open G ?_
  intro T B D TE TW
  try (refine guard_noD D (by decide +kernel) ?_; clear D)
  wrow_args hpre hlay hrd hwl hlo
  first | refine callC_kw (enter_call ?_) | refine enter_call ?_ | refine callC_kw (enter_callW ?_) | refine enter_callW ?_ | w_how
  w_top on
  try refine codeAny_mono ?_ (fun _ _ g => GoodW.toG g)
  refine Mine.law_top (G := Mine.L01.g) (n := 10) (d := Mine.L01.g_law) (l := PySem.Challenge.rw_ui0503_01) KX T (by decide +kernel) rfl hg (by assumption) (by assumption) rfl hmg rfl ?_ (by decide) (Mine.core _ (by assumption))
  intro a o
  kernel_rfl

