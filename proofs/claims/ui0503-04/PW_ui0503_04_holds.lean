import PyProof.Rows.All
import Wide.All
import OpenK.AllK
import Wide.FinOn
import PySem.Challenge.RW_ui0503_04
set_option maxRecDepth 100000
set_option Elab.async false
set_option linter.all false
set_option genSizeOfSpec false
namespace Mine
open PySem PySem.W PySem.Calls PyProof.Rows

/-- values: data by its content, objects that change by a number -/
inductive RV where
  | none
  | bool (b : Bool)
  | int (i : Int)
  | str (s : Str)
  | tup (vs : List RV)
  | rng (a b c : Int)
  | ref (i : Nat)
  | fn (x : String)
  | cls (x : String)
  | bi (x : String)
  | ty (x : String)
  | fdict (es : List (Str × RV))
  | sset (ss : List Str)
  | arg (vs : List RV)

/-- objects -/
inductive RO where
  | list (vs : List RV)
  | dict (es : List (RV × RV))
  | inst (c : String) (fs : List (String × RV))

abbrev Loc := List (String × RV)
abbrev RH := List RO

def setL {α : Type} (x : String) (v : α) : List (String × α) → List (String × α)
  | [] => [(x, v)]
  | (y, u) :: r => if y = x then (x, v) :: r else (y, u) :: setL x v r

inductive RE where
  | const (v : RV)
  | loc (x : String)
  | glb (x : String)
  | boolop (and : Bool) (es : List RE)
  | bin (op : Operator) (a b : RE)
  | not (a : RE)
  | list (es : List RE)
  | tup (es : List RE)
  | dict0
  | comp1 (elt : RE) (x : String) (it : RE) (ifs : List RE)
  | cmp (a : RE) (ops : List CmpOp) (es : List RE)
  | call (f : RE) (args : List RE)
  | meth (o : RE) (name : String) (args : List RE)
  | attr (o : RE) (name : String)
  | sub (o i : RE)

inductive RT where
  | expr (e : RE)
  | ret (e : RE)
  | asg (x : String) (e : RE)
  | asgAttr (o : RE) (x : String) (e : RE)
  | asgSub (o i : RE) (e : RE)
  | ite (t : RE) (a b : List RT)
  | for_ (x : String) (it : RE) (body : List RT)
  | raise_

structure RFn where
  params : List String
  dflts : List RV
  body : List RT

structure RCls where
  ms : List (String × RFn)
  attrs : List String

structure RProg where
  funs : List (String × RFn)
  clss : List (String × RCls)
  vals : List (String × RV)

inductive RFl where
  | next
  | ret (v : RV)
end Mine

namespace Mine
open PySem PySem.W PySem.Calls PyProof.Rows PySem.SeqAt

/-! what a value reads as -/
def toPD0 : RV → Option PyData
  | .bool b => some (.bool b)
  | .int i => some (.int i)
  | .str s => some (.str s)
  | _ => none
def toPDs : List RV → Option (List PyData)
  | [] => some []
  | v :: vs => match toPD0 v with
    | some d => (toPDs vs).map (d :: ·)
    | none => none
def toPD : RV → Option PyData
  | .tup vs => (toPDs vs).map .tuple
  | v => toPD0 v
/-- one level of lists over flat data -/
def toPDH (H : RH) : RV → Option PyData
  | .ref i => match H[i]? with
    | some (.list vs) => (toPDs vs).map .list
    | _ => none
  | v => toPD v

def eqP (H : RH) (a b : RV) : Option Bool := match toPDH H a, toPDH H b with
  | some x, some y => if shaped x && shaped y then some (PyData.eqv x y) else none
  | _, _ => none

/-- keys -/
def keyEq (a b : RV) : Bool := match toPD a, toPD b with
  | some x, some y => PyData.eqv x y
  | _, _ => false
def dget (es : List (RV × RV)) (k : RV) : Option RV := (es.find? fun p => keyEq p.1 k).map (·.2)
def keyOk : RV → Bool
  | .str _ => true
  | _ => false
/-- membership -/
def inP (H : RH) (a b : RV) : Option Bool := match b with
  | .tup vs => match toPD a, toPDs vs with
    | some d, some ds => if shaped d && shaped (.tuple ds) then some (ds.any fun y => PyData.eqv y d) else none
    | _, _ => none
  | .fdict es => match a with
    | .str s => some ((es.lookup s).isSome)
    | _ => none
  | .str y => match a with
    | .str x => some (Txt.contains y x)
    | _ => none
  | .ref i => match H[i]? with
    | some (.list vs) => match toPD a, toPDs vs with
      | some d, some ds => if shaped d && shaped (.list ds) then some (ds.any fun y => PyData.eqv y d) else none
      | _, _ => none
    | some (.dict es) => if keyOk a then some (dget es a).isSome else none
    | _ => none
  | _ => none

def cmpP (H : RH) : CmpOp → RV → RV → Option Bool
  | .Eq, a, b => eqP H a b
  | .NotEq, a, b => (eqP H a b).map (!·)
  | .Lt, .int x, .int y => some (decide (x < y))
  | .LtE, .int x, .int y => some (decide (x ≤ y))
  | .Gt, .int x, .int y => some (decide (y < x))
  | .GtE, .int x, .int y => some (decide (y ≤ x))
  | .In, a, b => inP H a b
  | .NotIn, a, b => (inP H a b).map (!·)
  | _, _, _ => none

def truthR (H : RH) : RV → Option Bool
  | .bool b => some b
  | .ref i => match H[i]? with
    | some (.list vs) => if vs.length ≤ sizeLine then some (vs.length != 0) else none
    | _ => none
  | _ => none

def smallI (x : Int) : Prop := x.natAbs < 2 ^ 64

def binR (op : Operator) (a b : RV) (H : RH) (Q : RV → RH → Prop) : Prop := match op, a, b with
  | .Add, .int x, .int y => Q (.int (x + y)) H
  | .Sub, .int x, .int y => Q (.int (x - y)) H
  | .Mult, .int x, .int y => smallI x ∧ smallI y ∧ Q (.int (x * y)) H
  | .Mod, .int x, .int y => y ≠ 0 ∧ Q (.int (Int.fmod x y)) H
  | .Add, .str x, .str y => (x ++ y).length ≤ sizeLine ∧ Q (.str (x ++ y)) H
  | .Add, .ref i, .ref j => match H[i]?, H[j]? with
    | some (.list xs), some (.list ys) => (xs ++ ys).length ≤ sizeLine ∧ Q (.ref H.length) (H ++ [.list (xs ++ ys)])
    | _, _ => False
  | _, _, _ => False

/-- the items that a loop goes through -/
def rngL (a b c : Int) : List RV := if 0 < c then (List.range ((b - a + c - 1) / c).toNat).map fun (k : Nat) => RV.int (a + c * (k : Int)) else []

def itemsR (H : RH) : RV → Option (List RV)
  | .rng a b c => if 0 < c then some (rngL a b c) else none
  | .ref i => match H[i]? with
    | some (.list vs) => some vs
    | _ => none
  | _ => none
/-- what a loop may go through -/
def placedB (H : RH) : RV → Bool
  | .ref i => match H[i]? with
    | some (.list _) => true
    | _ => false
  | .rng x y c => c == 1 && Builtin.Range.small x y c
  | _ => false
/-- the object that is gone through stands as it stood -/
def srcOf (H : RH) (v : RV) (H' : RH) : Prop := match v with
  | .ref i => H'[i]? = H[i]?
  | _ => True

def lenR (H : RH) : RV → Option Nat
  | .arg vs => some vs.length
  | .tup vs => some vs.length
  | .sset ss => some ss.length
  | .ref i => match H[i]? with
    | some (.list vs) => some vs.length
    | _ => none
  | _ => none

def idxR (k : Int) (n : Nat) : Option Nat := if 0 ≤ k ∧ k < (n : Int) ∧ k < 2 ^ 62 then some k.toNat else none

def subR (H : RH) : RV → RV → Option RV
  | .arg vs, .int k => (idxR k vs.length).bind (vs[·]?)
  | .ref i, k => match H[i]?, k with
    | some (.list vs), .int k => (idxR k vs.length).bind (vs[·]?)
    | some (.dict es), k => if keyOk k then dget es k else none
    | _, _ => none
  | _, _ => none

abbrev CallTy := RV → List RV → RH → (RV → RH → Prop) → Prop
/-- a method of a class of the text's own: the callee's name is the class's and its own -/
abbrev MethTy := String → String → List RV → RH → (RV → RH → Prop) → Prop
end Mine

namespace Mine
open PySem PySem.W PySem.Calls PyProof.Rows

def biNames : List String := ["len", "abs", "sorted", "sum", "max", "min", "isinstance"]
def tyNames : List String := ["range", "set", "tuple", "str", "list", "dict", "int"]
abbrev PV := RV → RH → Prop
abbrev PB := Bool → RH → Prop
abbrev UTy := RFn → List RV → RH → PV → Prop

def asStr : RV → Option Str
  | .str s => some s
  | _ => none
def strsP : List RV → Option (List Str)
  | [] => some []
  | v :: r => match asStr v with
    | some s => (strsP r).map (s :: ·)
    | none => none

/-- texts in order -/
def leS (a b : Str) : Bool := !(decide (b.cps.toList < a.cps.toList))
def insS (x : Str) : List Str → List Str
  | [] => [x]
  | y :: r => if leS x y then x :: y :: r else y :: insS x r
def sortS : List Str → List Str
  | [] => []
  | x :: r => insS x (sortS r)

def nubA (acc : List Str) : List Str → List Str
  | [] => acc
  | x :: r => nubA (if acc.contains x then acc else acc ++ [x]) r
def nubS (l : List Str) : List Str := nubA [] l

def fitI (x : Int) : Prop := -(2 ^ 63) ≤ x ∧ x < 2 ^ 63

/-- calls of the built-in functions -/
def biR (x : String) (args : List RV) (H : RH) (Q : PV) : Prop :=
  if x = "len" then match args with
    | [v] => match lenR H v with
      | some n => (n : Int) < 2 ^ 63 ∧ Q (.int n) H
      | none => False
    | _ => False
  else if x = "sorted" then match args with
    | [.ref i] => match H[i]? with
      | some (.list vs) => match strsP vs with
        | some l => l.length < 64 ∧ Q (.ref H.length) (H ++ [.list ((sortS l).map .str)])
        | none => False
      | some (.dict es) => match strsP (es.map (·.1)) with
        | some l => l.length < 64 ∧ Q (.ref H.length) (H ++ [.list ((sortS l).map .str)])
        | none => False
      | _ => False
    | _ => False
  else False

/-- calls of the built-in types -/
def tyR (x : String) (args : List RV) (H : RH) (Q : PV) : Prop :=
  if x = "range" then match args with
    | [.int n] => fitI n ∧ Q (.rng 0 n 1) H
    | _ => False
  else if x = "set" then match args with
    | [] => False
    | [.ref i] => match H[i]? with
      | some (.list vs) => match strsP vs with
        | some l => l.length < 4000 ∧ Q (.sset (nubS l)) H
        | none => False
      | _ => False
    | _ => False
  else if x = "tuple" then match args with
    | [.ref i] => match H[i]? with
      | some (.list vs) => vs.length < 4000 ∧ Q (.tup vs) H
      | _ => False
    | _ => False
  else if x = "str" then match args with
    | [.int i] => i.natAbs < 10 ^ 10 ∧ Q (.str (Str.ofString (toString i))) H
    | _ => False
  else False

/-- calls of the methods of built-in objects -/
def mbR (id : String) (o : RV) (args : List RV) (H : RH) (Q : PV) : Prop :=
  if id = "str.split" then match o, args with
    | .str x, [] => x.length < 4000 ∧ Q (.ref H.length) (H ++ [.list ((Txt.words x).map .str)])
    | _, _ => False
  else False

/-- whether a class's objects may bear a name of their own -/
def attrOk (G : RProg) (c x : String) : Bool := match G.clss.lookup c with
  | some k => k.attrs.contains x
  | none => false
def fieldR (G : RProg) (H : RH) (o : RV) (x : String) : Option RV := match o with
  | .ref i => match H[i]? with
    | some (.inst c fs) => if attrOk G c x then (match fs.lookup x with | some (.bi _) => none | r => r) else none
    | _ => none
  | _ => none

section
variable (G : RProg) (U : UTy)

def callR (f : RV) (args : List RV) (H : RH) (Q : PV) : Prop := match f with
  | .fn x => match G.funs.lookup x with
    | some d => U d args H Q
    | none => False
  | .cls c => match (G.clss.lookup c).bind (·.ms.lookup "__init__") with
    | some d => U d (.ref H.length :: args) (H ++ [.inst c []]) fun r H' => r = .none ∧ Q (.ref H.length) H'
    | none => False
  | .bi x => biR x args H Q
  | .ty x => tyR x args H Q
  | _ => False

/-- whether a callee can be called hangs on nothing but itself -/
def callable : RV → Bool
  | .fn x => (G.funs.lookup x).isSome
  | .cls c => ((G.clss.lookup c).bind (·.ms.lookup "__init__")).isSome
  | .bi _ => true
  | .ty _ => true
  | _ => false

/-- what a method's name means -/
inductive MK where
  | own (d : RFn)
  | blt (id : String)
def methK (H : RH) (o : RV) (m : String) : Option MK := match o with
  | .ref i => match H[i]? with
    | some (.inst c fs) => match fs.lookup m, (G.clss.lookup c).bind (·.ms.lookup m) with
      | none, some d => some (.own d)
      | _, _ => none
    | _ => none
  | .str _ => if m = "split" then some (.blt "str.split") else none
  | _ => none

def globR (x : String) : Option RV :=
  if (G.funs.lookup x).isSome then some (.fn x)
  else if (G.clss.lookup x).isSome then some (.cls x)
  else match G.vals.lookup x with
    | some v => some v
    | none =>
      if biNames.contains x then some (.bi x)
      else if tyNames.contains x then some (.ty x)
      else none

/-- a comprehension's turns: what is collected -/
def wpTurns (turn : RV → RH → (Option RV → RH → Prop) → Prop) (src : RH → Prop) : List RV → List RV → RH → (List RV → RH → Prop) → Prop
  | [], acc, H, Q => src H ∧ Q acc H
  | v :: vs, acc, H, Q => src H ∧ turn v H fun r H' => wpTurns turn src vs (match r with | some x => acc ++ [x] | none => acc) H' Q

mutual
def wpE : RE → Loc → RH → PV → Prop
  | .const v, _, H, Q => Q v H
  | .loc x, loc, H, Q => match loc.lookup x with
    | some v => Q v H
    | none => False
  | .glb x, _, H, Q => match globR G x with
    | some v => Q v H
    | none => False
  | .boolop b es, loc, H, Q => wpBool b es loc H Q
  | .bin op a b, loc, H, Q => wpE a loc H fun x H₁ => wpE b loc H₁ fun y H₂ => binR op x y H₂ Q
  | .not a, loc, H, Q => wpE a loc H fun v H₁ => match truthR H₁ v with
    | some b => Q (.bool (!b)) H₁
    | none => False
  | .list es, loc, H, Q => wpEs es loc H fun vs H₁ => vs.length ≤ sizeLine ∧ Q (.ref H₁.length) (H₁ ++ [.list vs])
  | .tup es, loc, H, Q => wpEs es loc H fun vs H₁ => vs.length ≤ sizeLine ∧ Q (.tup vs) H₁
  | .dict0, _, H, Q => Q (.ref H.length) (H ++ [.dict []])
  | .comp1 elt x it ifs, loc, H, Q => wpE it loc H fun s H₁ => match itemsR H₁ s with
    | some l => placedB H₁ s = true ∧ l.length < 4000 ∧ wpTurns (fun v H' k => wpIfs ifs (setL x v loc) H' fun ok H'' => if ok then wpE elt (setL x v loc) H'' fun r H₃ => k (some r) H₃ else k none H'') (srcOf H₁ s) l [] H₁ fun vs H₂ => Q (.ref H₂.length) (H₂ ++ [.list vs])
    | none => False
  | .cmp a ops es, loc, H, Q => wpE a loc H fun v H₁ => wpCmp v ops es loc H₁ Q
  | .call f args, loc, H, Q => wpE f loc H fun fv H₁ => callable G fv = true ∧ wpEs args loc H₁ fun vs H₂ => callR G U fv vs H₂ Q
  | .meth o m args, loc, H, Q => wpE o loc H fun ov H₁ => match methK G H₁ ov m with
    | some (.own d) => wpEs args loc H₁ fun vs H₂ => U d (ov :: vs) H₂ Q
    | some (.blt id) => wpEs args loc H₁ fun vs H₂ => mbR id ov vs H₂ Q
    | none => False
  | .attr o x, loc, H, Q => wpE o loc H fun ov H₁ => match fieldR G H₁ ov x with
    | some v => Q v H₁
    | none => False
  | .sub o i, loc, H, Q => wpE o loc H fun ov H₁ => wpE i loc H₁ fun iv H₂ => match subR H₂ ov iv with
    | some v => Q v H₂
    | none => False
def wpT : RE → (Loc → RH → PV → Prop) → Loc → RH → PB → Prop
  | .not a, _, loc, H, Q => wpT a (fun l H' Q' => wpE a l H' Q') loc H fun b H₁ => Q (!b) H₁
  | .boolop b es, _, loc, H, Q => wpTs b es loc H Q
  | .cmp a ops es, _, loc, H, Q => wpE a loc H fun v H₁ => wpCmpT v ops es loc H₁ Q
  | _, whole, loc, H, Q => whole loc H fun v H₁ => match truthR H₁ v with
    | some b => Q b H₁
    | none => False
def wpTs (and : Bool) : List RE → Loc → RH → PB → Prop
  | [], _, H, Q => Q and H
  | e :: es, loc, H, Q => wpT e (fun l H' Q' => wpE e l H' Q') loc H fun b H₁ => if b = and then wpTs and es loc H₁ Q else Q b H₁
def wpIfs : List RE → Loc → RH → PB → Prop
  | [], _, H, Q => Q true H
  | e :: es, loc, H, Q => wpT e (fun l H' Q' => wpE e l H' Q') loc H fun b H₁ => if b then wpIfs es loc H₁ Q else Q false H₁
def wpEs : List RE → Loc → RH → (List RV → RH → Prop) → Prop
  | [], _, H, Q => Q [] H
  | e :: es, loc, H, Q => wpE e loc H fun v H₁ => wpEs es loc H₁ fun vs H₂ => Q (v :: vs) H₂
def wpBool (and : Bool) : List RE → Loc → RH → PV → Prop
  | [], _, _, _ => False
  | e :: es, loc, H, Q => wpE e loc H fun v H₁ => match es with
    | [] => Q v H₁
    | _ :: _ => match truthR H₁ v with
      | some b => if b = and then wpBool and es loc H₁ Q else Q v H₁
      | none => False
def wpCmp (v : RV) : List CmpOp → List RE → Loc → RH → PV → Prop
  | [op], [e], loc, H, Q => wpE e loc H fun u H₁ => match cmpP H₁ op v u with
    | some b => Q (.bool b) H₁
    | none => False
  | op :: ops, e :: es, loc, H, Q => wpE e loc H fun u H₁ => match cmpP H₁ op v u with
    | some true => wpCmp u ops es loc H₁ Q
    | some false => Q (.bool false) H₁
    | none => False
  | _, _, _, _, _ => False
def wpCmpT (v : RV) : List CmpOp → List RE → Loc → RH → PB → Prop
  | [op], [e], loc, H, Q => wpE e loc H fun u H₁ => match cmpP H₁ op v u with
    | some b => Q b H₁
    | none => False
  | op :: ops, e :: es, loc, H, Q => wpE e loc H fun u H₁ => match cmpP H₁ op v u with
    | some true => wpCmpT u ops es loc H₁ Q
    | some false => Q false H₁
    | none => False
  | _, _, _, _, _ => False
end
end
end Mine

namespace Mine
open PySem PySem.W PySem.Calls PyProof.Rows

abbrev PF := RFl → Loc → RH → Prop

def wpFor (body : Loc → RH → PF → Prop) (x : String) (src : RH → Prop) : List RV → Loc → RH → PF → Prop
  | [], loc, H, Q => src H ∧ Q .next loc H
  | v :: vs, loc, H, Q => src H ∧ body (setL x v loc) H fun fl loc₂ H₂ => match fl with
      | .next => wpFor body x src vs loc₂ H₂ Q
      | .ret r => Q (.ret r) loc₂ H₂

def setField (G : RProg) (H : RH) (o : RV) (x : String) (v : RV) : Option RH := match o with
  | .ref i => match H[i]? with
    | some (.inst c fs) => if attrOk G c x && decide (fs.length < 900) then some (H.set i (.inst c (setL x v fs))) else none
    | _ => none
  | _ => none

def putD (k v : RV) : List (RV × RV) → List (RV × RV)
  | [] => [(k, v)]
  | (k', v') :: r => if keyEq k' k then (k', v) :: r else (k', v') :: putD k v r

def setSub (H : RH) (o i v : RV) : Option RH := match o with
  | .ref j => match H[j]? with
    | some (.dict es) => if keyOk i && es.all (fun p => keyOk p.1) && decide (es.length < 4000) then some (H.set j (.dict (putD i v es))) else none
    | _ => none
  | _ => none

section
variable (G : RProg) (U : UTy)
mutual
def wpS : RT → Loc → RH → PF → Prop
  | .expr e, loc, H, Q => wpE G U e loc H fun _ H₁ => Q .next loc H₁
  | .ret e, loc, H, Q => wpE G U e loc H fun v H₁ => Q (.ret v) loc H₁
  | .asg x e, loc, H, Q => wpE G U e loc H fun v H₁ => Q .next (setL x v loc) H₁
  | .asgAttr o x e, loc, H, Q => wpE G U e loc H fun v H₁ => wpE G U o loc H₁ fun ov H₂ => match setField G H₂ ov x v with
    | some H₃ => Q .next loc H₃
    | none => False
  | .asgSub o i e, loc, H, Q => wpE G U e loc H fun v H₁ => wpE G U o loc H₁ fun ov H₂ => wpE G U i loc H₂ fun iv H₃ => match setSub H₃ ov iv v with
    | some H₄ => Q .next loc H₄
    | none => False
  | .ite t a b, loc, H, Q => wpT G U t (fun l H' Q' => wpE G U t l H' Q') loc H fun c H₁ => if c then wpSs a loc H₁ Q else wpSs b loc H₁ Q
  | .for_ x it body, loc, H, Q => wpE G U it loc H fun s H₁ => match itemsR H₁ s with
    | some l => placedB H₁ s = true ∧ wpFor (fun l' H' Q' => wpSs body l' H' Q') x (srcOf H₁ s) l loc H₁ Q
    | none => False
  | .raise_, _, _, _ => False
def wpSs : List RT → Loc → RH → PF → Prop
  | [], loc, H, Q => Q .next loc H
  | s :: r, loc, H, Q => wpS s loc H fun fl loc₁ H₁ => match fl with
    | .next => wpSs r loc₁ H₁ Q
    | fl => Q fl loc₁ H₁
end
end

def bindR (ps : List String) (ds : List RV) (args : List RV) : Option Loc :=
  if args.length ≤ ps.length ∧ ps.length ≤ args.length + ds.length then some (ps.zip (args ++ ds.drop (ds.length - (ps.length - args.length)))) else none

def retV : RFl → RV
  | .ret v => v
  | _ => .none

def callU (G : RProg) : Nat → UTy
  | 0, _, _, _, _ => False
  | n + 1, d, args, H, Q => match bindR d.params d.dflts args with
    | some loc => wpSs G (callU G n) d.body loc H fun fl _ H₁ => Q (retV fl) H₁
    | none => False
section
variable {G : RProg} {U : UTy} {loc : Loc} {H : RH} {Q : PV} {QB : PB} {QF : PF}
theorem wpE_const {v : RV} : wpE G U (.const v) loc H Q = Q v H := rfl
theorem wpE_loc {x : String} : wpE G U (.loc x) loc H Q = (match loc.lookup x with | some v => Q v H | none => False) := rfl
theorem wpE_glb {x : String} : wpE G U (.glb x) loc H Q = (match globR G x with | some v => Q v H | none => False) := rfl
theorem wpE_boolop {b : Bool} {es : List RE} : wpE G U (.boolop b es) loc H Q = wpBool G U b es loc H Q := rfl
theorem wpE_bin {op : Operator} {a b : RE} : wpE G U (.bin op a b) loc H Q = wpE G U a loc H fun x H₁ => wpE G U b loc H₁ fun y H₂ => binR op x y H₂ Q := rfl
theorem wpE_not {a : RE} : wpE G U (.not a) loc H Q = wpE G U a loc H fun v H₁ => match truthR H₁ v with | some b => Q (.bool (!b)) H₁ | none => False := rfl
theorem wpE_list {es : List RE} : wpE G U (.list es) loc H Q = wpEs G U es loc H fun vs H₁ => vs.length ≤ sizeLine ∧ Q (.ref H₁.length) (H₁ ++ [.list vs]) := rfl
theorem wpE_tup {es : List RE} : wpE G U (.tup es) loc H Q = wpEs G U es loc H fun vs H₁ => vs.length ≤ sizeLine ∧ Q (.tup vs) H₁ := rfl
theorem wpE_dict0 : wpE G U .dict0 loc H Q = Q (.ref H.length) (H ++ [.dict []]) := rfl
theorem wpE_comp1 {elt it : RE} {x : String} {ifs : List RE} : wpE G U (.comp1 elt x it ifs) loc H Q = wpE G U it loc H fun s H₁ => match itemsR H₁ s with
    | some l => placedB H₁ s = true ∧ l.length < 4000 ∧ wpTurns (fun v H' k => wpIfs G U ifs (setL x v loc) H' fun ok H'' => if ok then wpE G U elt (setL x v loc) H'' fun r H₃ => k (some r) H₃ else k none H'') (srcOf H₁ s) l [] H₁ fun vs H₂ => Q (.ref H₂.length) (H₂ ++ [.list vs])
    | none => False := rfl
theorem wpE_cmp {a : RE} {ops : List CmpOp} {es : List RE} : wpE G U (.cmp a ops es) loc H Q = wpE G U a loc H fun v H₁ => wpCmp G U v ops es loc H₁ Q := rfl
theorem wpE_call {f : RE} {args : List RE} : wpE G U (.call f args) loc H Q = wpE G U f loc H fun fv H₁ => callable G fv = true ∧ wpEs G U args loc H₁ fun vs H₂ => callR G U fv vs H₂ Q := rfl
theorem wpE_meth {o : RE} {m : String} {args : List RE} : wpE G U (.meth o m args) loc H Q = wpE G U o loc H fun ov H₁ => match methK G H₁ ov m with
    | some (.own d) => wpEs G U args loc H₁ fun vs H₂ => U d (ov :: vs) H₂ Q
    | some (.blt id) => wpEs G U args loc H₁ fun vs H₂ => mbR id ov vs H₂ Q
    | none => False := rfl
theorem wpE_attr {o : RE} {x : String} : wpE G U (.attr o x) loc H Q = wpE G U o loc H fun ov H₁ => match fieldR G H₁ ov x with | some v => Q v H₁ | none => False := rfl
theorem wpE_sub {o i : RE} : wpE G U (.sub o i) loc H Q = wpE G U o loc H fun ov H₁ => wpE G U i loc H₁ fun iv H₂ => match subR H₂ ov iv with | some v => Q v H₂ | none => False := rfl
theorem wpT_not {a : RE} {wh : Loc → RH → PV → Prop} : wpT G U (.not a) wh loc H QB = wpT G U a (fun l H' Q' => wpE G U a l H' Q') loc H fun b H₁ => QB (!b) H₁ := rfl
theorem wpT_boolop {b : Bool} {es : List RE} {wh : Loc → RH → PV → Prop} : wpT G U (.boolop b es) wh loc H QB = wpTs G U b es loc H QB := rfl
theorem wpT_cmp {a : RE} {ops : List CmpOp} {es : List RE} {wh : Loc → RH → PV → Prop} : wpT G U (.cmp a ops es) wh loc H QB = wpE G U a loc H fun v H₁ => wpCmpT G U v ops es loc H₁ QB := rfl
theorem wpT_call {f : RE} {args : List RE} {wh : Loc → RH → PV → Prop} : wpT G U (.call f args) wh loc H QB = wh loc H fun v H₁ => match truthR H₁ v with | some b => QB b H₁ | none => False := rfl
theorem wpT_meth {o : RE} {m : String} {args : List RE} {wh : Loc → RH → PV → Prop} : wpT G U (.meth o m args) wh loc H QB = wh loc H fun v H₁ => match truthR H₁ v with | some b => QB b H₁ | none => False := rfl
theorem wpT_comp1 {elt it : RE} {x : String} {ifs : List RE} {wh : Loc → RH → PV → Prop} : wpT G U (.comp1 elt x it ifs) wh loc H QB = wh loc H fun v H₁ => match truthR H₁ v with | some b => QB b H₁ | none => False := rfl
theorem wpTs_nil {a : Bool} : wpTs G U a [] loc H QB = QB a H := rfl
theorem wpTs_cons {a : Bool} {e : RE} {es : List RE} : wpTs G U a (e :: es) loc H QB = wpT G U e (fun l H' Q' => wpE G U e l H' Q') loc H fun b H₁ => if b = a then wpTs G U a es loc H₁ QB else QB b H₁ := rfl
theorem wpIfs_nil : wpIfs G U [] loc H QB = QB true H := rfl
theorem wpIfs_cons {e : RE} {es : List RE} : wpIfs G U (e :: es) loc H QB = wpT G U e (fun l H' Q' => wpE G U e l H' Q') loc H fun b H₁ => if b then wpIfs G U es loc H₁ QB else QB false H₁ := rfl
theorem wpEs_nil {QL : List RV → RH → Prop} : wpEs G U [] loc H QL = QL [] H := rfl
theorem wpEs_cons {e : RE} {es : List RE} {QL : List RV → RH → Prop} : wpEs G U (e :: es) loc H QL = wpE G U e loc H fun v H₁ => wpEs G U es loc H₁ fun vs H₂ => QL (v :: vs) H₂ := rfl
theorem wpBool_one {b : Bool} {e : RE} : wpBool G U b [e] loc H Q = wpE G U e loc H fun v H₁ => Q v H₁ := rfl
theorem wpBool_two {b : Bool} {e e' : RE} {es : List RE} : wpBool G U b (e :: e' :: es) loc H Q = wpE G U e loc H fun v H₁ => match truthR H₁ v with | some t => if t = b then wpBool G U b (e' :: es) loc H₁ Q else Q v H₁ | none => False := rfl
theorem wpCmp_one {v : RV} {op : CmpOp} {e : RE} : wpCmp G U v [op] [e] loc H Q = wpE G U e loc H fun u H₁ => match cmpP H₁ op v u with | some b => Q (.bool b) H₁ | none => False := rfl
theorem wpCmp_two {v : RV} {op op' : CmpOp} {ops : List CmpOp} {e : RE} {es : List RE} : wpCmp G U v (op :: op' :: ops) (e :: es) loc H Q = wpE G U e loc H fun u H₁ => match cmpP H₁ op v u with | some true => wpCmp G U u (op' :: ops) es loc H₁ Q | some false => Q (.bool false) H₁ | none => False := rfl
theorem wpCmp_two' {v : RV} {op : CmpOp} {ops : List CmpOp} {e e' : RE} {es : List RE} : wpCmp G U v (op :: ops) (e :: e' :: es) loc H Q = wpE G U e loc H fun u H₁ => match cmpP H₁ op v u with | some true => wpCmp G U u ops (e' :: es) loc H₁ Q | some false => Q (.bool false) H₁ | none => False := by cases ops <;> rfl
theorem wpCmpT_one {v : RV} {op : CmpOp} {e : RE} : wpCmpT G U v [op] [e] loc H QB = wpE G U e loc H fun u H₁ => match cmpP H₁ op v u with | some b => QB b H₁ | none => False := rfl
theorem wpCmpT_two {v : RV} {op op' : CmpOp} {ops : List CmpOp} {e : RE} {es : List RE} : wpCmpT G U v (op :: op' :: ops) (e :: es) loc H QB = wpE G U e loc H fun u H₁ => match cmpP H₁ op v u with | some true => wpCmpT G U u (op' :: ops) es loc H₁ QB | some false => QB false H₁ | none => False := rfl
theorem wpCmpT_two' {v : RV} {op : CmpOp} {ops : List CmpOp} {e e' : RE} {es : List RE} : wpCmpT G U v (op :: ops) (e :: e' :: es) loc H QB = wpE G U e loc H fun u H₁ => match cmpP H₁ op v u with | some true => wpCmpT G U u ops (e' :: es) loc H₁ QB | some false => QB false H₁ | none => False := by cases ops <;> rfl
theorem wpS_expr {e : RE} : wpS G U (.expr e) loc H QF = wpE G U e loc H fun _ H₁ => QF .next loc H₁ := rfl
theorem wpS_ret {e : RE} : wpS G U (.ret e) loc H QF = wpE G U e loc H fun v H₁ => QF (.ret v) loc H₁ := rfl
theorem wpS_asg {x : String} {e : RE} : wpS G U (.asg x e) loc H QF = wpE G U e loc H fun v H₁ => QF .next (setL x v loc) H₁ := rfl
theorem wpS_asgAttr {o e : RE} {x : String} : wpS G U (.asgAttr o x e) loc H QF = wpE G U e loc H fun v H₁ => wpE G U o loc H₁ fun ov H₂ => match setField G H₂ ov x v with | some H₃ => QF .next loc H₃ | none => False := rfl
theorem wpS_asgSub {o i e : RE} : wpS G U (.asgSub o i e) loc H QF = wpE G U e loc H fun v H₁ => wpE G U o loc H₁ fun ov H₂ => wpE G U i loc H₂ fun iv H₃ => match setSub H₃ ov iv v with | some H₄ => QF .next loc H₄ | none => False := rfl
theorem wpS_ite {t : RE} {a b : List RT} : wpS G U (.ite t a b) loc H QF = wpT G U t (fun l H' Q' => wpE G U t l H' Q') loc H fun c H₁ => if c then wpSs G U a loc H₁ QF else wpSs G U b loc H₁ QF := rfl
theorem wpS_for {x : String} {it : RE} {body : List RT} : wpS G U (.for_ x it body) loc H QF = wpE G U it loc H fun s H₁ => match itemsR H₁ s with
    | some l => placedB H₁ s = true ∧ wpFor (fun l' H' Q' => wpSs G U body l' H' Q') x (srcOf H₁ s) l loc H₁ QF
    | none => False := rfl
theorem wpS_raise : wpS G U .raise_ loc H QF = False := rfl
theorem wpSs_nil : wpSs G U [] loc H QF = QF .next loc H := rfl
theorem wpSs_cons {s : RT} {r : List RT} : wpSs G U (s :: r) loc H QF = wpS G U s loc H fun fl loc₁ H₁ => match fl with | .next => wpSs G U r loc₁ H₁ QF | fl => QF fl loc₁ H₁ := rfl
end
end Mine

namespace Mine
open PySem PySem.W PySem.Calls PyProof.Rows

abbrev Ns := List (Str × NameKind)

def mtC : Const → RV → Bool
  | .none, .none => true
  | .bool b, .bool c => b == c
  | .int i, .int j => decide (i = j)
  | .str s, .str u => s == u
  | _, _ => false
def isL (k : Option NameKind) : Bool := k == some .local || k == some .cell || k == some .free
def isW (k : Option NameKind) : Bool := k == some .local || k == some .cell
def dbg (x : Str) : Bool := x == ("__debug__" : Str) || x == ("__classdict__" : Str) || x == (".0" : Str)

/-- a block's own names: each free one is a cell of the frame around; no name stands twice -/
def scOk (ns : Ns) (sc : Scope) : Bool :=
  sc.kind == .function && !sc.isGenerator && !sc.isCoroutine && decide ((sc.names.map (·.1)).Nodup) &&
  sc.names.all (fun p => p.2 != .free || ns.lookup p.1 == some .cell || ns.lookup p.1 == some .free) && sc.names.all (fun p => p.2 != .globalExplicit)

/-- a comprehension's own names: its one variable, and none that is a cell -/
def cmOk (x : Str) (sc : Scope) : Bool :=
  sc.names.lookup x == some .local && sc.names.all (fun p => p.2 != .cell) && sc.names.all (fun p => p.2 != .local || p.1 == x || p.1 == (".0" : Str))

/-- no call ahead of the dot -/
def noC : RE → Bool
  | .call _ _ => false
  | _ => true

mutual
def mtE (ns : Ns) (e : Expr) (r : RE) : Bool := match r, e with
  | .const v, .Constant c _ _ => mtC c v
  | .loc x, .Name id _ => id == Str.ofString x && isL (ns.lookup id) && !dbg id
  | .glb x, .Name id _ => id == Str.ofString x && ns.lookup id == some .globalImplicit && !dbg id
  | .boolop b rs, .BoolOp op es _ => ((op == .And) == b) && mtEs ns es rs
  | .bin o' a b, .BinOp l o r _ => o == o' && mtE ns l a && mtE ns r b
  | .not a, .UnaryOp .Not x _ => mtE ns x a
  | .list rs, .List es _ => mtEs ns es rs
  | .tup rs, .Tuple es _ _ => mtEs ns es rs
  | .dict0, .Dict [] [] _ => true
  | .comp1 elt' x' it' ifs', .ListComp elt [⟨.Name x _, it, ifs, k⟩] sc _ => k == 0 && x == Str.ofString x' && scOk ns sc && cmOk x sc &&  mtE ns it it' && mtE sc.names elt elt' && mtEs sc.names ifs ifs'
  | .cmp a' ops' es', .Compare a ops es _ => ops == ops' && decide (ops.length = es.length) && !ops.isEmpty && mtE ns a a' && mtEs ns es es'
  | .meth o' n' args', .Call (.Attribute o n ap) args [] p => noC o' && n == Str.ofString n' && mtE ns o o' && mtEs ns args args' && ap.endLine == p.line && decide (args.length < 30)
  | .call f' args', .Call (.Name id np) args [] _ => mtE ns (.Name id np) f' && mtEs ns args args'
  | .attr o' n', .Attribute o n _ => noC o' && n == Str.ofString n' && mtE ns o o'
  | .sub o' i', .Subscript o i _ => mtE ns o o' && mtE ns i i'
  | _, _ => false
termination_by structural r
def mtEs (ns : Ns) : List Expr → List RE → Bool
  | [], [] => true
  | e :: es, r :: rs => mtE ns e r && mtEs ns es rs
  | _, _ => false
termination_by structural _ rs => rs
end

def plainVal : Expr → Bool
  | .ListComp .. => false
  | .SetComp .. => false
  | .DictComp .. => false
  | _ => true

mutual
def mtS (ns : Ns) (st : Stmt) (r : RT) : Bool := match r, st with
  | .expr r, .Expr e _ => plainVal e && mtE ns e r
  | .ret r, .Return (some e) _ => mtE ns e r
  | .asg x r, .Assign [.Name id np] e p => mtE ns e r && id == Str.ofString x && isW (ns.lookup id)
  | .asgAttr o' n' e', .Assign [.Attribute o n _] e _ => mtE ns e e' && mtE ns o o' && n == Str.ofString n'
  | .asgSub o' i' e', .Assign [.Subscript o i _] e _ => mtE ns e e' && mtE ns o o' && mtE ns i i'
  | .ite t' a' b', .If t a b _ => mtE ns t t' && mtSs ns a a' && mtSs ns b b'
  | .for_ x it' body', .For (.Name id _) it body [] _ => id == Str.ofString x && isW (ns.lookup id) && mtE ns it it' && mtSs ns body body'
  | .raise_, .Raise _ _ _ => true
  | _, _ => false
termination_by structural r
def mtSs (ns : Ns) : List Stmt → List RT → Bool
  | [], [] => true
  | s :: ss, r :: rs => mtS ns s r && mtSs ns ss rs
  | _, _ => false
termination_by structural _ rs => rs
end

/-- a written table of ints by texts -/
def asInt : RV → Option Int
  | .int i => some i
  | _ => none
def vStr : Value → Option Str
  | .str x _ => some x
  | _ => none
def vInt : Value → Option Int
  | .int i _ => some i
  | _ => none
def fdM : List (Str × RV) → List DictEntry → Bool
  | [], [] => true
  | e :: es, d :: ds => vStr d.key == some e.1 && (asInt e.2).isSome && vInt d.val == asInt e.2 && fdM es ds
  | _, _ => false
/-- a top value as ours -/
def vBool : Value → Option Bool
  | .bool b => some b
  | _ => none
def vRef : Value → Option Addr
  | .ref a => some a
  | _ => none
def dctIn (K : Frag) (a : Addr) : Option (List DictEntry × Nat) := match K.lookup a with
  | some ⟨.type t, none, .dict ds n, sl⟩ => if t == "dict" && sl.isEmpty then some (ds.toList, n) else none
  | _ => none
def mtV (K : Frag) (u : Value) (v : RV) : Bool := match v with
  | .bool b => vBool u == some b
  | .int i => vInt u == some i
  | .str s => vStr u == some s
  | .fdict es => match vRef u with
    | some a => nsIn K mainGlobals "HEIGHTS" == some (some (.ref a)) && (match dctIn K a with
      | some d => fdM es d.1 && decide ((es.map (·.1)).Nodup) && !(a == sysModules)
      | none => false)
    | none => false
  | _ => false

/-- a def of the text's against ours -/
def mtFn (K : Frag) (f : Addr) (qual : Str) (d : RFn) : Bool := match K.lookup f with
  | some ⟨.type _, _, .func fd, _⟩ =>
    fd.globals == mainGlobals && fd.closure.isEmpty && fd.builtins == builtinsNs && fd.qualname == qual && codeIn K fd.code fd.qualname &&
    !fd.scope.isGenerator && !fd.scope.isCoroutine && fd.scope.kind == .function && decide ((fd.scope.names.map (·.1)).Nodup) && fd.scope.names.all (fun q => q.2 != .free) &&
    fd.params.posonlyargs.isEmpty && fd.params.vararg.isNone && fd.params.kwonlyargs.isEmpty && fd.params.kwarg.isNone &&
    fd.params.args.map (·.arg) == d.params.map Str.ofString && fd.params.args.all (fun a => isW (fd.scope.names.lookup a.arg)) && decide ((d.params).Nodup) && decide (d.dflts.length ≤ d.params.length) &&
    (match fd.defaults with
      | .none => d.dflts.isEmpty
      | .ref t => (match K.lookup t with
        | some ⟨.type c, none, .seq vs _, _⟩ => c == "tuple" && decide (vs.toList.length = d.dflts.length) && (vs.toList.zip d.dflts).all fun p => mtV K p.1 p.2
        | _ => false)
      | _ => false) &&
    (match fd.kwdefaults with | .none => true | _ => false) &&
    (match fd.body with | .stmts b => mtSs fd.scope.names b d.body | .expr _ => false)
  | _ => false

def mtProg (K : Frag) (G : RProg) : Bool :=
  (G.funs.all fun p => match nsIn K mainGlobals (Str.ofString p.1) with
    | some (some (.ref f)) => mtFn K f (Str.ofString p.1) p.2
    | _ => false) &&
  (G.clss.all fun c => match nsIn K mainGlobals (Str.ofString c.1) with
    | some (some (.ref C)) => makesIn K C && hasDictIn K C && keepIn K (.ref C) && plainGet K C (Str.ofString c.1) && findIn K (.ref C) "__setattr__" == some (some (.builtin "object.__setattr__")) && plainOver K C &&
      (c.2.attrs.all fun x => match findIn K (.ref C) (Str.ofString x) with
        | some attr => noGet K attr && takerIn K C (Str.ofString x) == some none
        | none => false) && c.2.ms.all fun p => match findIn K (.ref C) (Str.ofString p.1) with
      | some (some (.ref f)) => isFn K (.ref f) && mtFn K f (Str.ofString c.1 ++ "." ++ Str.ofString p.1) p.2
      | _ => false
    | _ => false) &&
  (biNames.all fun x => nsIn K mainGlobals (Str.ofString x) == some none) && (tyNames.all fun x => nsIn K mainGlobals (Str.ofString x) == some none) &&
  (G.vals.all fun p => match nsIn K mainGlobals (Str.ofString p.1) with
    | some (some v) => mtV K v p.2
    | _ => false)
end Mine

namespace Mine
open PySem PySem.W PySem.Calls PyProof.Rows

section
variable {ns : Ns}
theorem mtE_const {c : Const} {k : Nat} {p : Pos} {v : RV} : mtE ns (.Constant c k p) (.const v) = mtC c v := rfl
theorem mtE_loc {id : Str} {p : Pos} {x : String} : mtE ns (.Name id p) (.loc x) = (id == Str.ofString x && isL (ns.lookup id) && !dbg id) := rfl
theorem mtE_glb {id : Str} {p : Pos} {x : String} : mtE ns (.Name id p) (.glb x) = (id == Str.ofString x && ns.lookup id == some .globalImplicit && !dbg id) := rfl
theorem mtE_boolop {op : BoolOp} {es : List Expr} {p : Pos} {b : Bool} {rs : List RE} : mtE ns (.BoolOp op es p) (.boolop b rs) = (((op == .And) == b) && mtEs ns es rs) := rfl
theorem mtE_bin {l r : Expr} {o o' : Operator} {p : Pos} {a b : RE} : mtE ns (.BinOp l o r p) (.bin o' a b) = (o == o' && mtE ns l a && mtE ns r b) := rfl
theorem mtE_not {x : Expr} {p : Pos} {a : RE} : mtE ns (.UnaryOp .Not x p) (.not a) = mtE ns x a := rfl
theorem mtE_list {es : List Expr} {p : Pos} {rs : List RE} : mtE ns (.List es p) (.list rs) = mtEs ns es rs := rfl
theorem mtE_tup {es : List Expr} {k : Nat} {p : Pos} {rs : List RE} : mtE ns (.Tuple es k p) (.tup rs) = mtEs ns es rs := rfl
theorem mtE_comp1 {elt it : Expr} {x : Str} {xp p : Pos} {ifs : List Expr} {k : Int} {sc : Scope} {elt' it' : RE} {x' : String} {ifs' : List RE} : mtE ns (.ListComp elt [⟨.Name x xp, it, ifs, k⟩] sc p) (.comp1 elt' x' it' ifs') =
  (k == 0 && x == Str.ofString x' && scOk ns sc && cmOk x sc &&  mtE ns it it' && mtE sc.names elt elt' && mtEs sc.names ifs ifs') := rfl
theorem mtE_cmp {a : Expr} {ops : List CmpOp} {es : List Expr} {p : Pos} {a' : RE} {ops' : List CmpOp} {rs : List RE} : mtE ns (.Compare a ops es p) (.cmp a' ops' rs) = (ops == ops' && decide (ops.length = es.length) && !ops.isEmpty && mtE ns a a' && mtEs ns es rs) := rfl
theorem mtE_meth {o : Expr} {x : Str} {ap p : Pos} {es : List Expr} {o' : RE} {x' : String} {rs : List RE} : mtE ns (.Call (.Attribute o x ap) es [] p) (.meth o' x' rs) = (noC o' && x == Str.ofString x' && mtE ns o o' && mtEs ns es rs && ap.endLine == p.line && decide (es.length < 30)) := rfl
theorem mtE_call {id : Str} {np p : Pos} {es : List Expr} {f' : RE} {rs : List RE} : mtE ns (.Call (.Name id np) es [] p) (.call f' rs) = (mtE ns (.Name id np) f' && mtEs ns es rs) := rfl
theorem mtE_attr {o : Expr} {x : Str} {p : Pos} {o' : RE} {x' : String} : mtE ns (.Attribute o x p) (.attr o' x') = (noC o' && x == Str.ofString x' && mtE ns o o') := rfl
theorem mtE_sub {o i : Expr} {p : Pos} {o' i' : RE} : mtE ns (.Subscript o i p) (.sub o' i') = (mtE ns o o' && mtE ns i i') := rfl
theorem mtEs_nil : mtEs ns [] [] = true := rfl
theorem mtEs_cons {e : Expr} {es : List Expr} {r : RE} {rs : List RE} : mtEs ns (e :: es) (r :: rs) = (mtE ns e r && mtEs ns es rs) := rfl
theorem mtEs_nc {r : RE} {rs : List RE} : mtEs ns [] (r :: rs) = false := rfl
theorem mtEs_cn {e : Expr} {es : List Expr} : mtEs ns (e :: es) [] = false := rfl
end
/-- the pairs that meet -/
inductive Mt (ns : Ns) : Expr → RE → Prop where
  | const {c : Const} {k : Nat} {p : Pos} {v : RV} : mtE ns (.Constant c k p) (.const v) = true → Mt ns (.Constant c k p) (.const v)
  | loc {i : Str} {p : Pos} {x : String} : mtE ns (.Name i p) (.loc x) = true → Mt ns (.Name i p) (.loc x)
  | glb {i : Str} {p : Pos} {x : String} : mtE ns (.Name i p) (.glb x) = true → Mt ns (.Name i p) (.glb x)
  | boolop {op : BoolOp} {es : List Expr} {p : Pos} {b : Bool} {rs : List RE} : mtE ns (.BoolOp op es p) (.boolop b rs) = true → Mt ns (.BoolOp op es p) (.boolop b rs)
  | bin {l r : Expr} {o o' : Operator} {p : Pos} {a b : RE} : mtE ns (.BinOp l o r p) (.bin o' a b) = true → Mt ns (.BinOp l o r p) (.bin o' a b)
  | not {x : Expr} {p : Pos} {a : RE} : mtE ns (.UnaryOp .Not x p) (.not a) = true → Mt ns (.UnaryOp .Not x p) (.not a)
  | list {es : List Expr} {p : Pos} {rs : List RE} : mtE ns (.List es p) (.list rs) = true → Mt ns (.List es p) (.list rs)
  | tup {es : List Expr} {k : Nat} {p : Pos} {rs : List RE} : mtE ns (.Tuple es k p) (.tup rs) = true → Mt ns (.Tuple es k p) (.tup rs)
  | dict0 {p : Pos} : mtE ns (.Dict [] [] p) .dict0 = true → Mt ns (.Dict [] [] p) .dict0
  | comp1 {elt it : Expr} {x : Str} {xp p : Pos} {ifs : List Expr} {k : Int} {sc : Scope} {elt' it' : RE} {x' : String} {ifs' : List RE} : mtE ns (.ListComp elt [⟨.Name x xp, it, ifs, k⟩] sc p) (.comp1 elt' x' it' ifs') = true → Mt ns (.ListComp elt [⟨.Name x xp, it, ifs, k⟩] sc p) (.comp1 elt' x' it' ifs')
  | cmp {a : Expr} {ops : List CmpOp} {es : List Expr} {p : Pos} {a' : RE} {ops' : List CmpOp} {rs : List RE} : mtE ns (.Compare a ops es p) (.cmp a' ops' rs) = true → Mt ns (.Compare a ops es p) (.cmp a' ops' rs)
  | call {id : Str} {np p : Pos} {es : List Expr} {f' : RE} {rs : List RE} : mtE ns (.Call (.Name id np) es [] p) (.call f' rs) = true → Mt ns (.Call (.Name id np) es [] p) (.call f' rs)
  | meth {o : Expr} {x : Str} {ap p : Pos} {es : List Expr} {o' : RE} {x' : String} {rs : List RE} : mtE ns (.Call (.Attribute o x ap) es [] p) (.meth o' x' rs) = true → Mt ns (.Call (.Attribute o x ap) es [] p) (.meth o' x' rs)
  | attr {o : Expr} {x : Str} {p : Pos} {o' : RE} {x' : String} : mtE ns (.Attribute o x p) (.attr o' x') = true → Mt ns (.Attribute o x p) (.attr o' x')
  | sub {o i : Expr} {p : Pos} {o' i' : RE} : mtE ns (.Subscript o i p) (.sub o' i') = true → Mt ns (.Subscript o i p) (.sub o' i')
theorem mt_of {ns : Ns} {e : Expr} {r : RE} (h : mtE ns e r = true) : Mt ns e r := by
  cases r with
  | const => cases e <;> first | exact absurd h Bool.false_ne_true | exact .const h
  | loc => cases e <;> first | exact absurd h Bool.false_ne_true | exact .loc h
  | glb => cases e <;> first | exact absurd h Bool.false_ne_true | exact .glb h
  | boolop => cases e <;> first | exact absurd h Bool.false_ne_true | exact .boolop h
  | bin => cases e <;> first | exact absurd h Bool.false_ne_true | exact .bin h
  | list => cases e <;> first | exact absurd h Bool.false_ne_true | exact .list h
  | tup => cases e <;> first | exact absurd h Bool.false_ne_true | exact .tup h
  | cmp => cases e <;> first | exact absurd h Bool.false_ne_true | exact .cmp h
  | attr => cases e <;> first | exact absurd h Bool.false_ne_true | exact .attr h
  | sub => cases e <;> first | exact absurd h Bool.false_ne_true | exact .sub h
  | not => cases e <;> first | exact absurd h Bool.false_ne_true | (rename_i op _ _; cases op <;> first | exact absurd h Bool.false_ne_true | exact .not h)
  | dict0 => cases e <;> first | exact absurd h Bool.false_ne_true | (rename_i ks vs _; cases ks <;> cases vs <;> first | exact absurd h Bool.false_ne_true | exact .dict0 h)
  | call => cases e <;> first | exact absurd h Bool.false_ne_true | (rename_i f xs ks p; cases ks <;> cases f <;> first | exact absurd h Bool.false_ne_true | exact .call h)
  | meth => cases e <;> first | exact absurd h Bool.false_ne_true | (rename_i f xs ks p; cases ks <;> cases f <;> first | exact absurd h Bool.false_ne_true | exact .meth h)
  | comp1 => cases e <;> first | exact absurd h Bool.false_ne_true | (rename_i elt gs sc p; (rcases gs with _ | ⟨⟨t, it, ifs, k⟩, _ | ⟨g, gs⟩⟩) <;> first | exact absurd h Bool.false_ne_true | (cases t <;> first | exact absurd h Bool.false_ne_true | exact .comp1 h))

section
variable {ns : Ns}
theorem mtS_expr {e : Expr} {p : Pos} {r : RE} : mtS ns (.Expr e p) (.expr r) = (plainVal e && mtE ns e r) := rfl
theorem mtS_ret1 {e : Expr} {p : Pos} {r : RE} : mtS ns (.Return (some e) p) (.ret r) = mtE ns e r := rfl
theorem mtS_asg1 {id : Str} {np p : Pos} {e : Expr} {x : String} {r : RE} : mtS ns (.Assign [.Name id np] e p) (.asg x r) = (mtE ns e r && id == Str.ofString x && isW (ns.lookup id)) := rfl
theorem mtS_asgAttr {o : Expr} {x : Str} {ap p : Pos} {e : Expr} {o' : RE} {x' : String} {e' : RE} : mtS ns (.Assign [.Attribute o x ap] e p) (.asgAttr o' x' e') = (mtE ns e e' && mtE ns o o' && x == Str.ofString x') := rfl
theorem mtS_asgSub {o i : Expr} {ap p : Pos} {e : Expr} {o' i' e' : RE} : mtS ns (.Assign [.Subscript o i ap] e p) (.asgSub o' i' e') = (mtE ns e e' && mtE ns o o' && mtE ns i i') := rfl
theorem mtS_ite {t : Expr} {a b : List Stmt} {p : Pos} {t' : RE} {a' b' : List RT} : mtS ns (.If t a b p) (.ite t' a' b') = (mtE ns t t' && mtSs ns a a' && mtSs ns b b') := rfl
theorem mtS_for {it : Expr} {id : Str} {np : Pos} {b : List Stmt} {p : Pos} {x : String} {it' : RE} {b' : List RT} : mtS ns (.For (.Name id np) it b [] p) (.for_ x it' b') = (id == Str.ofString x && isW (ns.lookup id) && mtE ns it it' && mtSs ns b b') := rfl
theorem mtSs_cons {s : Stmt} {ss : List Stmt} {r : RT} {rs : List RT} : mtSs ns (s :: ss) (r :: rs) = (mtS ns s r && mtSs ns ss rs) := rfl
end
inductive MtS (ns : Ns) : Stmt → RT → Prop where
  | expr {e : Expr} {p : Pos} {r : RE} : mtS ns (.Expr e p) (.expr r) = true → MtS ns (.Expr e p) (.expr r)
  | ret {e : Expr} {p : Pos} {r : RE} : mtS ns (.Return (some e) p) (.ret r) = true → MtS ns (.Return (some e) p) (.ret r)
  | asg {id : Str} {np p : Pos} {e : Expr} {x : String} {r : RE} : mtS ns (.Assign [.Name id np] e p) (.asg x r) = true → MtS ns (.Assign [.Name id np] e p) (.asg x r)
  | asgAttr {o : Expr} {x : Str} {ap p : Pos} {e : Expr} {o' : RE} {x' : String} {e' : RE} : mtS ns (.Assign [.Attribute o x ap] e p) (.asgAttr o' x' e') = true → MtS ns (.Assign [.Attribute o x ap] e p) (.asgAttr o' x' e')
  | asgSub {o i : Expr} {ap p : Pos} {e : Expr} {o' i' e' : RE} : mtS ns (.Assign [.Subscript o i ap] e p) (.asgSub o' i' e') = true → MtS ns (.Assign [.Subscript o i ap] e p) (.asgSub o' i' e')
  | ite {t : Expr} {a b : List Stmt} {p : Pos} {t' : RE} {a' b' : List RT} : mtS ns (.If t a b p) (.ite t' a' b') = true → MtS ns (.If t a b p) (.ite t' a' b')
  | for_ {it : Expr} {id : Str} {np : Pos} {b : List Stmt} {p : Pos} {x : String} {it' : RE} {b' : List RT} : mtS ns (.For (.Name id np) it b [] p) (.for_ x it' b') = true → MtS ns (.For (.Name id np) it b [] p) (.for_ x it' b')
  | raise_ {e c : Option Expr} {p : Pos} : mtS ns (.Raise e c p) .raise_ = true → MtS ns (.Raise e c p) .raise_
theorem mtS_of {ns : Ns} {st : Stmt} {r : RT} (h : mtS ns st r = true) : MtS ns st r := by
  cases r with
  | expr => cases st <;> first | exact absurd h Bool.false_ne_true | exact .expr h
  | ite => cases st <;> first | exact absurd h Bool.false_ne_true | exact .ite h
  | raise_ => cases st <;> first | exact absurd h Bool.false_ne_true | exact .raise_ h
  | ret => cases st <;> first | exact absurd h Bool.false_ne_true | (rename_i v _; cases v <;> first | exact absurd h Bool.false_ne_true | exact .ret h)
  | asg => cases st <;> first | exact absurd h Bool.false_ne_true | (rename_i ts v _; (rcases ts with _ | ⟨a, _ | ⟨b, ts⟩⟩) <;> first | exact absurd h Bool.false_ne_true | (cases a <;> first | exact absurd h Bool.false_ne_true | exact .asg h))
  | asgAttr => cases st <;> first | exact absurd h Bool.false_ne_true | (rename_i ts v _; (rcases ts with _ | ⟨a, _ | ⟨b, ts⟩⟩) <;> first | exact absurd h Bool.false_ne_true | (cases a <;> first | exact absurd h Bool.false_ne_true | exact .asgAttr h))
  | asgSub => cases st <;> first | exact absurd h Bool.false_ne_true | (rename_i ts v _; (rcases ts with _ | ⟨a, _ | ⟨b, ts⟩⟩) <;> first | exact absurd h Bool.false_ne_true | (cases a <;> first | exact absurd h Bool.false_ne_true | exact .asgSub h))
  | for_ => cases st <;> first | exact absurd h Bool.false_ne_true | (rename_i t _ _ o _; cases o <;> cases t <;> first | exact absurd h Bool.false_ne_true | exact .for_ h)
end Mine

namespace Mine
open PySem PySem.W PySem.Calls PyProof.Rows

abbrev Led := List (List (Addr × Obj))
abbrev Frz := List (Addr × Obj)
def adr (led : Led) (i : Nat) : Option Addr := match led[i]? with
  | some (p :: _) => some p.1
  | _ => none

abbrev tupO (vs : List Value) (n : Nat) : Obj := { cls := .type "tuple", data := .seq vs.toArray n }
abbrev lstO (vs : List Value) (n : Nat) : Obj := { cls := .type "list", data := .seq vs.toArray n }
abbrev dctO (es : List DictEntry) (n : Nat) : Obj := { cls := .type "dict", data := .dict es.toArray n }

def strOf : Value → Str
  | .str x _ => x
  | _ => Str.empty
/-- what stands still: the ledger's frozen part or the written top -/
def Imm (K : Frag) (fr : Frz) (a : Addr) (o : Obj) : Prop := (a, o) ∈ fr ∨ K.lookup a = some o

/-- a set of texts that is made and left as it is -/
def SsObj (o : Obj) (ss : List Str) : Prop := o.ExactSet ∧ ∃ es ep t, o.data = .set es ep t ∧ t.fits es.size = true ∧ es.size = ss.length
/-- the hashes of the one written table -/
def FdOk (P : Params) (K : Frag) : Prop := nsIn K mainGlobals "HEIGHTS" = some none ∨ ∃ a ds n, nsIn K mainGlobals "HEIGHTS" = some (some (.ref a)) ∧ K.lookup a = some (dctO ds n) ∧ KeysLit P ds

mutual
inductive VRel (K : Frag) (led : Led) (fr : Frz) : RV → Value → Prop where
  | none : VRel K led fr .none .none
  | bool (b : Bool) : VRel K led fr (.bool b) (.bool b)
  | int (i : Int) (t : Tok) : VRel K led fr (.int i) (.int i t)
  | str (x : Str) (t : Tok) : VRel K led fr (.str x) (.str x t)
  | tup {a : Addr} {us : List RV} {vs : List Value} {n : Nat} : Imm K fr a (tupO vs n) → VsRel K led fr us vs → VRel K led fr (.tup us) (.ref a)
  | rng {a : Addr} {x y c : Int} {t u v : Tok} : Imm K fr a { cls := .type "range", data := .fields #[.int x t, .int y u, .int c v] } → VRel K led fr (.rng x y c) (.ref a)
  | ref {i : Nat} {a : Addr} : adr led i = some a → VRel K led fr (.ref i) (.ref a)
  | fn {x : String} {a : Addr} : nsIn K mainGlobals (Str.ofString x) = some (some (.ref a)) → VRel K led fr (.fn x) (.ref a)
  | cls {x : String} {a : Addr} : nsIn K mainGlobals (Str.ofString x) = some (some (.ref a)) → VRel K led fr (.cls x) (.ref a)
  | bi (x : String) : VRel K led fr (.bi x) (.builtin x)
  | ty (x : String) : VRel K led fr (.ty x) (.type x)
  | fdict {a : Addr} {es : List (Str × RV)} {ds : List DictEntry} {n : Nat} : nsIn K mainGlobals "HEIGHTS" = some (some (.ref a)) → K.lookup a = some (dctO ds n) → fdM es ds = true → (es.map (·.1)).Nodup → (a == sysModules) = false → VRel K led fr (.fdict es) (.ref a)
  | sset {a : Addr} {ss : List Str} {o : Obj} : Imm K fr a o → o.cls = .type "set" → SsObj o ss → VRel K led fr (.sset ss) (.ref a)
  | arg {a : Addr} {us : List RV} {vs : List Value} {o : Obj} {n : Nat} : K.lookup a = some o → o.cls = .type "list" → o.data = .seq vs.toArray n → VsRel K led fr us vs → VRel K led fr (.arg us) (.ref a)
inductive VsRel (K : Frag) (led : Led) (fr : Frz) : List RV → List Value → Prop where
  | nil : VsRel K led fr [] []
  | cons {u : RV} {v : Value} {us : List RV} {vs : List Value} : VRel K led fr u v → VsRel K led fr us vs → VsRel K led fr (u :: us) (v :: vs)
end

section
variable {K : Frag} {led : Led} {fr : Frz} {u : Value}
theorem VRel.int_inv {i : Int} (h : VRel K led fr (.int i) u) : ∃ t, u = .int i t := by cases h; exact ⟨_, rfl⟩
theorem VRel.str_inv {x : Str} (h : VRel K led fr (.str x) u) : ∃ t, u = .str x t := by cases h; exact ⟨_, rfl⟩
theorem VRel.bool_inv {b : Bool} (h : VRel K led fr (.bool b) u) : u = .bool b := by cases h; rfl
theorem VRel.none_inv (h : VRel K led fr .none u) : u = .none := by cases h; rfl
theorem VRel.bi_inv {x : String} (h : VRel K led fr (.bi x) u) : u = .builtin x := by cases h; rfl
theorem VRel.ty_inv {x : String} (h : VRel K led fr (.ty x) u) : u = .type x := by cases h; rfl
theorem VRel.fn_inv {x : String} (h : VRel K led fr (.fn x) u) : ∃ a, u = .ref a ∧ nsIn K mainGlobals (Str.ofString x) = some (some (.ref a)) := by cases h with | fn h => exact ⟨_, rfl, h⟩
theorem VRel.cls_inv {x : String} (h : VRel K led fr (.cls x) u) : ∃ a, u = .ref a ∧ nsIn K mainGlobals (Str.ofString x) = some (some (.ref a)) := by cases h with | cls h => exact ⟨_, rfl, h⟩
theorem VRel.ref_inv {i : Nat} (h : VRel K led fr (.ref i) u) : ∃ a, u = .ref a ∧ adr led i = some a := by cases h with | ref h => exact ⟨_, rfl, h⟩
theorem VRel.tup_inv {us : List RV} (h : VRel K led fr (.tup us) u) : ∃ a vs n, u = .ref a ∧ Imm K fr a (tupO vs n) ∧ VsRel K led fr us vs := by cases h with | tup i r => exact ⟨_, _, _, rfl, i, r⟩
theorem VRel.rng_inv {x y c : Int} (h : VRel K led fr (.rng x y c) u) : ∃ a t v z, u = .ref a ∧ Imm K fr a { cls := .type "range", data := .fields #[.int x t, .int y v, .int c z] } := by cases h with | rng i => exact ⟨_, _, _, _, rfl, i⟩
theorem VRel.sset_inv {ss : List Str} (h : VRel K led fr (.sset ss) u) : ∃ a o, u = .ref a ∧ Imm K fr a o ∧ SsObj o ss := by cases h with | sset i c o => exact ⟨_, _, rfl, i, o⟩
theorem VRel.arg_inv {us : List RV} (h : VRel K led fr (.arg us) u) : ∃ a vs o n, u = .ref a ∧ K.lookup a = some o ∧ o.cls = .type "list" ∧ o.data = .seq vs.toArray n ∧ VsRel K led fr us vs := by cases h with | arg i c d r => exact ⟨_, _, _, _, rfl, i, c, d, r⟩
theorem VRel.fd_inv {es : List (Str × RV)} (h : VRel K led fr (.fdict es) u) : ∃ a ds n, u = .ref a ∧ nsIn K mainGlobals "HEIGHTS" = some (some (.ref a)) ∧ K.lookup a = some (dctO ds n) ∧ fdM es ds = true ∧ (es.map (·.1)).Nodup ∧ (a == sysModules) = false := by cases h with | fdict a b c d e => exact ⟨_, _, _, rfl, a, b, c, d, e⟩
theorem VsRel.nil_inv {vs : List Value} (h : VsRel K led fr [] vs) : vs = [] := by cases h; rfl
theorem VsRel.cons_inv {x : RV} {us : List RV} {vs : List Value} (h : VsRel K led fr (x :: us) vs) : ∃ y ys, vs = y :: ys ∧ VRel K led fr x y ∧ VsRel K led fr us ys := by cases h with | cons a b => exact ⟨_, _, rfl, a, b⟩
theorem VsRel.one_inv {x : RV} {vs : List Value} (h : VsRel K led fr [x] vs) : ∃ y, vs = [y] ∧ VRel K led fr x y := by
  obtain ⟨y, ys, rfl, a, b⟩ := h.cons_inv
  rw [b.nil_inv]; exact ⟨y, rfl, a⟩
end

/-- one entry of an object's own dict -/
inductive FsRel (P : Params) (K : Frag) (led : Led) (fr : Frz) : List (String × RV) → List DictEntry → Prop where
  | nil : FsRel P K led fr [] []
  | cons {x : String} {u : RV} {t : Tok} {v : Value} {fs : List (String × RV)} {es : List DictEntry} : VRel K led fr u v → FsRel P K led fr fs es → FsRel P K led fr ((x, u) :: fs) (⟨PyData.keyHash P (Str.ofString x), .str (Str.ofString x) t, v⟩ :: es)

/-- entries of a dict keyed by texts -/
inductive DsRel (P : Params) (K : Frag) (led : Led) (fr : Frz) : List (RV × RV) → List DictEntry → Prop where
  | nil : DsRel P K led fr [] []
  | cons {x : Str} {u : RV} {t : Tok} {v : Value} {fs : List (RV × RV)} {es : List DictEntry} : VRel K led fr u v → DsRel P K led fr fs es → DsRel P K led fr ((.str x, u) :: fs) (⟨PyData.keyHash P x, .str x t, v⟩ :: es)

inductive ORel (P : Params) (K : Frag) (led : Led) (fr : Frz) : RO → List (Addr × Obj) → Prop where
  | list {us : List RV} {vs : List Value} {a : Addr} {n : Nat} : VsRel K led fr us vs → ORel P K led fr (.list us) [(a, lstO vs n)]
  | dict {es : List (RV × RV)} {ds : List DictEntry} {a : Addr} {n : Nat} : DsRel P K led fr es ds → (ds.map fun e => strOf e.key).Nodup → ORel P K led fr (.dict es) [(a, dctO ds n)]
  | inst {c : String} {C x d : Addr} {fs : List (String × RV)} {ds : List DictEntry} {n : Nat} : nsIn K mainGlobals (Str.ofString c) = some (some (.ref C)) → FsRel P K led fr fs ds → ORel P K led fr (.inst c fs) [(x, instObj C d), (d, dctO ds n)]

def HRel (P : Params) (K : Frag) (led : Led) (fr : Frz) (H : RH) : Prop := led.length = H.length ∧ ∀ (i : Nat) (o : RO), H[i]? = some o → ∃ b, led[i]? = some b ∧ ORel P K led fr o b

def Ext (led led' : Led) : Prop := ∀ i a, adr led i = some a → adr led' i = some a
def Sub (fr fr' : Frz) : Prop := ∀ p ∈ fr, p ∈ fr'
theorem Ext.refl (led : Led) : Ext led led := fun _ _ e => e
theorem Ext.trans {a b c : Led} (x : Ext a b) (y : Ext b c) : Ext a c := fun i p e => y i p (x i p e)
theorem Sub.refl (fr : Frz) : Sub fr fr := fun _ e => e
theorem Sub.trans {a b c : Frz} (x : Sub a b) (y : Sub b c) : Sub a c := fun p e => y p (x p e)
theorem Imm.mono {K : Frag} {fr fr' : Frz} {a : Addr} {o : Obj} (x : Imm K fr a o) (h : Sub fr fr') : Imm K fr' a o := x.imp (h _) id

mutual
theorem VRel.mono {K : Frag} {led led' : Led} {fr fr' : Frz} (e : Ext led led') (h : Sub fr fr') : ∀ {u : RV} {v : Value}, VRel K led fr u v → VRel K led' fr' u v
  | _, _, .none => .none
  | _, _, .bool b => .bool b
  | _, _, .int i t => .int i t
  | _, _, .str x t => .str x t
  | _, _, .tup i r => .tup (i.mono h) (VsRel.mono e h r)
  | _, _, .rng i => .rng (i.mono h)
  | _, _, .ref i => .ref (e _ _ i)
  | _, _, .fn i => .fn i
  | _, _, .cls i => .cls i
  | _, _, .bi x => .bi x
  | _, _, .ty x => .ty x
  | _, _, .fdict a b c d e => .fdict a b c d e
  | _, _, .sset i c o => .sset (i.mono h) c o
  | _, _, .arg i c d r => .arg i c d (VsRel.mono e h r)
theorem VsRel.mono {K : Frag} {led led' : Led} {fr fr' : Frz} (e : Ext led led') (h : Sub fr fr') : ∀ {u : List RV} {v : List Value}, VsRel K led fr u v → VsRel K led' fr' u v
  | _, _, .nil => .nil
  | _, _, .cons x r => .cons (VRel.mono e h x) (VsRel.mono e h r)
end
theorem FsRel.mono {P : Params} {K : Frag} {led led' : Led} {fr fr' : Frz} (e : Ext led led') (h : Sub fr fr') {u : List (String × RV)} {v : List DictEntry} (r : FsRel P K led fr u v) : FsRel P K led' fr' u v := by
  induction r with
  | nil => exact .nil
  | cons x _ ih => exact .cons (x.mono e h) ih
theorem DsRel.mono {P : Params} {K : Frag} {led led' : Led} {fr fr' : Frz} (e : Ext led led') (h : Sub fr fr') {u : List (RV × RV)} {v : List DictEntry} (r : DsRel P K led fr u v) : DsRel P K led' fr' u v := by
  induction r with
  | nil => exact .nil
  | cons x _ ih => exact .cons (x.mono e h) ih
theorem ORel.mono {P : Params} {K : Frag} {led led' : Led} {fr fr' : Frz} (e : Ext led led') (h : Sub fr fr') {o : RO} {b : List (Addr × Obj)} (r : ORel P K led fr o b) : ORel P K led' fr' o b := by
  cases r with
  | list x => exact .list (x.mono e h)
  | dict x d => exact .dict (x.mono e h) d
  | inst i x => exact .inst i (x.mono e h)
theorem HRel.mono {P : Params} {K : Frag} {led : Led} {fr fr' : Frz} {H : RH} (r : HRel P K led fr H) (h : Sub fr fr') : HRel P K led fr' H :=
  ⟨r.1, fun i o e => let ⟨b, hb, x⟩ := r.2 i o e; ⟨b, hb, x.mono (Ext.refl _) h⟩⟩

/-- nothing of the shared state but the heap and the tokens has turned -/
def Sm (s s' : Shared) : Prop := s'.gens = s.gens ∧ s'.drawn = s.drawn ∧ s'.os = s.os
theorem Sm.refl (s : Shared) : Sm s s := ⟨rfl, rfl, rfl⟩
theorem Sm.trans {a b c : Shared} (x : Sm a b) (y : Sm b c) : Sm a c := ⟨y.1.trans x.1, y.2.1.trans x.2.1, y.2.2.trans x.2.2⟩
theorem Sm.with {s s' : Shared} (x : Sm s s') (h : Heap) (t : Nat) : Sm s { s' with heap := h, toks := t } := ⟨x.1, x.2.1, x.2.2⟩

structure Rel (P : Params) (K : Frag) (h₀ : Heap) (L : Addr) (mF : Str → Option Value) (led : Led) (fr : Frz) (H : RH) (s : Shared) : Prop where
  Z : FdOk P K
  F : Fr h₀ L s.heap mF
  N : News h₀ L s.heap (led.flatten ++ fr)
  D : (led.flatten.map (·.1)).Nodup
  X : ∀ p ∈ fr, p.1 ∉ led.flatten.map (·.1)
  R : HRel P K led fr H

section
variable {P : Params} {K : Frag} {h₀ : Heap} {L : Addr} {mF : Str → Option Value} {led led' : Led} {fr fr' : Frz} {H H' : RH} {s s' : Shared}
theorem Rel.toks (r : Rel P K h₀ L mF led fr H s) (t : Nat) : Rel P K h₀ L mF led fr H { s with toks := t } := ⟨r.Z, r.F, r.N, r.D, r.X, r.R⟩
theorem mem_flat {p : Addr × Obj} {b : List (Addr × Obj)} {i : Nat} (h : led[i]? = some b) (hp : p ∈ b) : p ∈ led.flatten :=
  List.mem_flatten.mpr ⟨b, List.mem_of_getElem? h, hp⟩
theorem Rel.at (r : Rel P K h₀ L mF led fr H s) {p : Addr × Obj} (h : p ∈ led.flatten ++ fr) : s.heap.get? p.1 = some p.2 := (r.N p h).1
theorem Rel.fresh (r : Rel P K h₀ L mF led fr H s) : s.heap.objs.size ∉ (led.flatten ++ fr).map (·.1) := fun h => by
  obtain ⟨p, hp, e⟩ := List.mem_map.mp h
  have := Heap.lt_size (r.at hp)
  rw [e] at this
  exact Nat.lt_irrefl _ this
/-- a thing that stands still is made -/
theorem Rel.newFr (r : Rel P K h₀ L mF led fr H s) (o : Obj) (hf : o.isFreed = false) : Rel P K h₀ L mF led ((s.heap.objs.size, o) :: fr) H { s with heap := s.heap.push o } := by
  refine ⟨r.Z, r.F.push o, ?_, r.D, ?_, r.R.mono fun p h => .tail _ h⟩
  · intro p hp
    have N' := News.push r.F r.N o hf
    rcases List.mem_append.mp hp with h | h
    · exact N' p (.tail _ (List.mem_append.mpr (.inl h)))
    · rcases List.mem_cons.mp h with rfl | h
      · exact N' _ (.head _)
      · exact N' p (.tail _ (List.mem_append.mpr (.inr h)))
  · intro p hp
    rcases List.mem_cons.mp hp with rfl | h
    · exact fun q => r.fresh (by rw [List.map_append]; exact List.mem_append.mpr (.inl q))
    · exact r.X p h
theorem adr_snoc (b : List (Addr × Obj)) : Ext led (led ++ [b]) := fun i a e => by
  unfold adr at e ⊢
  have hi : i < led.length := by
    by_cases h : i < led.length
    · exact h
    · rw [List.getElem?_eq_none (by omega)] at e; cases e
  rw [List.getElem?_append_left hi]; exact e
theorem adr_last (p : Addr × Obj) (b : List (Addr × Obj)) : adr (led ++ [p :: b]) led.length = some p.1 := by
  unfold adr
  rw [List.getElem?_append_right (Nat.le_refl _), Nat.sub_self]; rfl
/-- an object of one piece is made -/
theorem Rel.newOb (r : Rel P K h₀ L mF led fr H s) (o : Obj) (ro : RO) (hf : o.isFreed = false)
    (hr : ORel P K (led ++ [[(s.heap.objs.size, o)]]) fr ro [(s.heap.objs.size, o)]) :
    Rel P K h₀ L mF (led ++ [[(s.heap.objs.size, o)]]) fr (H ++ [ro]) { s with heap := s.heap.push o } := by
  have N' := News.push r.F r.N o hf
  refine ⟨r.Z, r.F.push o, ?_, ?_, ?_, ⟨by simp [r.R.1], fun i x e => ?_⟩⟩
  · intro p hp
    simp only [List.flatten_append, List.mem_append, List.flatten_cons, List.flatten_nil, List.append_nil, List.mem_singleton] at hp
    rcases hp with (h | h) | h
    · exact N' p (.tail _ (List.mem_append.mpr (.inl h)))
    · subst h; exact N' _ (.head _)
    · exact N' p (.tail _ (List.mem_append.mpr (.inr h)))
  · have hq := r.fresh
    simp only [List.map_append, List.mem_append, not_or] at hq
    simp only [List.flatten_append, List.flatten_cons, List.flatten_nil, List.append_nil, List.map_append, List.map_cons, List.map_nil]
    rw [List.nodup_append]
    refine ⟨r.D, by simp, ?_⟩
    intro a ha b hb e
    simp only [List.mem_singleton] at hb
    subst hb; subst e
    exact hq.1 ha
  · intro p hp q
    simp only [List.flatten_append, List.flatten_cons, List.flatten_nil, List.append_nil, List.map_append, List.map_cons, List.map_nil, List.mem_append, List.mem_singleton] at q
    rcases q with q | q
    · exact r.X p hp q
    · have := r.fresh
      simp only [List.map_append, List.mem_append, not_or] at this
      exact this.2 (q ▸ List.mem_map_of_mem hp)
  · by_cases hi : i < H.length
    · rw [List.getElem?_append_left hi] at e
      obtain ⟨b, hb, x'⟩ := r.R.2 i x e
      exact ⟨b, by rw [List.getElem?_append_left (by rw [r.R.1]; exact hi)]; exact hb, x'.mono (adr_snoc _) (Sub.refl _)⟩
    · have hi' : i = H.length := by
        have : i < (H ++ [ro]).length := by
          by_cases h : i < (H ++ [ro]).length
          · exact h
          · rw [List.getElem?_eq_none (by omega)] at e; cases e
        simp at this; omega
      subst hi'
      rw [List.getElem?_append_right (Nat.le_refl _), Nat.sub_self] at e
      cases e
      refine ⟨_, ?_, hr⟩
      rw [← r.R.1, List.getElem?_append_right (Nat.le_refl _), Nat.sub_self]; rfl
end
end Mine

namespace Mine
open PySem PySem.W PySem.Calls PyProof.Rows

/-- an activation: a frame of the text's own, with room for n more -/
structure ActK (prog : Program) (K : Frag) (p : Program) (loose : List Str) (mg mb : Str → Option Value) (A : Around) (fenv : Env) (h₀ : Heap) (L : Addr) (n k : Nat) : Prop where
  bel : ∃ A₀ base outer, Below A₀ base outer h₀ ∧ A.frames = some (fenv :: outer)
  frm : fenv.frame = some L
  knd : fenv.scope.kind = .function
  gen : fenv.scope.isGenerator = false
  cor : fenv.scope.isCoroutine = false
  gl : fenv.globals = mainGlobals
  bl : fenv.builtins = builtinsNs
  X : K.In h₀
  T : TopRead p loose mg mb h₀
  sr : h₀.NoSeer
  tr : prog.given.tree = none
  hd : A.handled = none
  dep : A.depth + 10 * n + 115 + k < recursionLimit
  uni : A.units + 40 * n + 195 + k < cLine

abbrev Act (prog : Program) (K : Frag) (p : Program) (loose : List Str) (mg mb : Str → Option Value) (A : Around) (fenv : Env) (h₀ : Heap) (L : Addr) (n : Nat) : Prop := ActK prog K p loose mg mb A fenv h₀ L n 5

structure EnvOk (env : Env) (ns : Ns) (L : Addr) (mF mL : Str → Option Value) (fr : Frz) : Prop where
  knd : env.scope.kind = .function
  gl : env.globals = mainGlobals
  bl : env.builtins = builtinsNs
  frm : env.frame = some L
  kin : ∀ x k, ns.lookup x = some k → env.kindOf x = some k ∨ (k = .free ∧ env.kindOf x = some .cell)
  cel : ∀ x, (ns.lookup x = some .cell ∨ ns.lookup x = some .free) → ∃ c, env.cells.lookup x = some c
  at_ : (env.locals = L ∧ mL = mF) ∨ ∃ o es ep, (env.locals, o) ∈ fr ∧ o.data = .dict es ep ∧ StrKeys es ∧ ∀ name, nsFind es name = mL name

def LRel (K : Frag) (led : Led) (fr : Frz) (env : Env) (mL : Str → Option Value) (loc : Loc) : Prop :=
  ∀ x v, loc.lookup x = some v →
    (env.kindOf (Str.ofString x) = some .local → Str.ofString x ≠ (".0" : Str) → ∃ u, mL (Str.ofString x) = some u ∧ VRel K led fr v u) ∧
    (env.kindOf (Str.ofString x) = some .cell ∨ env.kindOf (Str.ofString x) = some .free → ∃ c o u, env.cells.lookup (Str.ofString x) = some c ∧ (c, o) ∈ fr ∧ o.data = .cell (some u) ∧ VRel K led fr v u)

section
variable {prog : Program} {w : World} {K : Frag} {p : Program} {loose : List Str} {mg mb : Str → Option Value} {A : Around} {fenv env : Env} {ns : Ns} {h₀ : Heap} {L : Addr} {n : Nat} {mF mL : Str → Option Value}
  {led led' : Led} {fr fr' : Frz} {H : RH} {loc : Loc} {s s' : Shared} {E : Value → Shared → Prop} {P : Params}

theorem EnvOk.mono (e : EnvOk env ns L mF mL fr) (h : Sub fr fr') : EnvOk env ns L mF mL fr' :=
  ⟨e.knd, e.gl, e.bl, e.frm, e.kin, e.cel, e.at_.imp id fun ⟨o, es, ep, m, r⟩ => ⟨o, es, ep, h _ m, r⟩⟩
theorem LRel.mono (l : LRel K led fr env mL loc) (x : Ext led led') (h : Sub fr fr') : LRel K led' fr' env mL loc := fun y v e =>
  ⟨fun k d => let ⟨u, a, b⟩ := (l y v e).1 k d; ⟨u, a, b.mono x h⟩, fun k => let ⟨c, o, u, a, b, d, r⟩ := (l y v e).2 k; ⟨c, o, u, a, h _ b, d, r.mono x h⟩⟩
theorem Rel.nsAt (r : Rel P K h₀ L mF led fr H s) (e : EnvOk env ns L mF mL fr) : s.heap.Ns env.locals mL := by
  rcases e.at_ with ⟨a, b⟩ | ⟨o, es, ep, m, d, k, f⟩
  · rw [a, b]; exact r.F.ns
  · exact ⟨o, es, ep, r.at (List.mem_append.mpr (.inr m)), d, k, f⟩

/-- what is handed on behind an expression -/
def EPost (P : Params) (K : Frag) (h₀ : Heap) (L : Addr) (mF : Str → Option Value) (led : Led) (fr : Frz) (s : Shared) (Qr : PV) (Q : Value → Shared → Prop) : Prop :=
  ∀ v u led' fr' H' s', Qr v H' → VRel K led' fr' v u → Rel P K h₀ L mF led' fr' H' s' → Ext led led' → Sub fr fr' → Sm s s' → Q u s'

theorem name_loc {x : String} {pos : Pos} {Qr : PV} {Q : Value → Shared → Prop} (hx : isL (ns.lookup (Str.ofString x)) = true) (hb : dbg (Str.ofString x) = false)
    (e : EnvOk env ns L mF mL fr) (l : LRel K led fr env mL loc) (r : Rel P K h₀ L mF led fr H s)
    (hw : match loc.lookup x with | some v => Qr v H | none => False) (hQ : EPost P K h₀ L mF led fr s Qr Q) :
    wpAny (model prog w) A (eval (.Name (Str.ofString x) pos) env) Q E s := by
  cases hv : loc.lookup x with
  | none => rw [hv] at hw; exact hw.elim
  | some v =>
    rw [hv] at hw
    simp only [dbg, Bool.or_eq_false_iff] at hb
    have fin : ∀ u, VRel K led fr v u → Q u s := fun u hu => hQ v u led fr H s hw hu r (Ext.refl _) (Sub.refl _) (Sm.refl _)
    cases hk : ns.lookup (Str.ofString x) with
    | none => rw [hk] at hx; simp [isL] at hx
    | some k =>
      rw [hk] at hx
      have kin := e.kin _ _ hk
      have cellCase : (env.kindOf (Str.ofString x) = some .cell ∨ env.kindOf (Str.ofString x) = some .free) → wpAny (model prog w) A (eval (.Name (Str.ofString x) pos) env) Q E s := fun hc => by
        obtain ⟨c, o, u, h1, h2, h3, h4⟩ := (l x v hv).2 hc
        have hcell : s.heap.IsCell c (some u) := ⟨o, r.at (List.mem_append.mpr (.inr h2)), h3⟩
        rcases hc with hc | hc
        · exact wpAny_Name (wpAny_loadName_cell e.knd hc h1 hcell (fin u h4)) hb.1.1
        · exact wpAny_Name (wpAny_loadName_free e.knd hc h1 hcell (fin u h4) hb.1.2) hb.1.1
      rcases kin with kin | ⟨rfl, kin⟩
      · cases k with
        | «local» =>
          obtain ⟨u, h1, h2⟩ := (l x v hv).1 kin (by simpa using hb.2)
          exact wpAny_Name (wpAny_loadName_local e.knd kin (r.nsAt e) h1 (fin u h2)) hb.1.1
        | cell => exact cellCase (.inl kin)
        | free => exact cellCase (.inr kin)
        | globalExplicit => simp [isL] at hx
        | globalImplicit => simp [isL] at hx
      · exact cellCase (.inl kin)

theorem boot_bi : ∀ x ∈ biNames, bootBuiltins (Str.ofString x) = some (.builtin x) := by decide +kernel
theorem boot_ty : ∀ x ∈ tyNames, bootBuiltins (Str.ofString x) = some (.type x) := by decide +kernel
theorem ne_name_bi : ∀ x ∈ biNames ++ tyNames, Str.ofString x ≠ ("__name__" : Str) := by decide +kernel

/-- the text as we read it is the text as the top laid it -/
structure ProgOk (K : Frag) (G : RProg) : Prop where
  fn : ∀ x d, G.funs.lookup x = some d → ∃ f, nsIn K mainGlobals (Str.ofString x) = some (some (.ref f)) ∧ mtFn K f (Str.ofString x) d = true
  cl : ∀ c ms, G.clss.lookup c = some ms → ∃ C, nsIn K mainGlobals (Str.ofString c) = some (some (.ref C)) ∧ makesIn K C = true ∧ hasDictIn K C = true ∧ keepIn K (.ref C) = true ∧
    (plainGet K C (Str.ofString c) = true ∧ findIn K (.ref C) "__setattr__" = some (some (.builtin "object.__setattr__")) ∧ plainOver K C = true ∧
      ∀ x ∈ ms.attrs, ∃ attr, findIn K (.ref C) (Str.ofString x) = some attr ∧ noGet K attr = true ∧ takerIn K C (Str.ofString x) = some none) ∧
    ∀ m d, ms.ms.lookup m = some d → ∃ f, findIn K (.ref C) (Str.ofString m) = some (some (.ref f)) ∧ isFn K (.ref f) = true ∧ mtFn K f (Str.ofString c ++ "." ++ Str.ofString m) d = true
  vl : ∀ x v, G.vals.lookup x = some v → ∃ u, nsIn K mainGlobals (Str.ofString x) = some (some u) ∧ mtV K u v = true
  bi : ∀ x ∈ biNames, nsIn K mainGlobals (Str.ofString x) = some none
  ty : ∀ x ∈ tyNames, nsIn K mainGlobals (Str.ofString x) = some none

theorem lookup_mem {α β : Type} [BEq α] [LawfulBEq α] {x : α} {v : β} : ∀ {l : List (α × β)}, l.lookup x = some v → (x, v) ∈ l
  | [], h => by cases h
  | (y, u) :: r, h => by
    rw [List.lookup_cons] at h
    cases hq : x == y with
    | true => rw [hq] at h; cases h; rw [eq_of_beq hq]; exact .head _
    | false => rw [hq] at h; exact .tail _ (lookup_mem h)

theorem progOk {G : RProg} (h : mtProg K G = true) : ProgOk K G := by
  simp only [mtProg, Bool.and_eq_true] at h
  obtain ⟨⟨⟨⟨h1, h2⟩, h3⟩, h4⟩, h5⟩ := h
  refine ⟨fun x d e => ?_, fun c ms e => ?_, fun x v e => ?_, fun x hx => ?_, fun x hx => ?_⟩
  · have := List.all_eq_true.mp h1 _ (lookup_mem e)
    dsimp only at this
    split at this
    · rename_i f hf; exact ⟨f, hf, this⟩
    · cases this
  · have := List.all_eq_true.mp h2 _ (lookup_mem e)
    dsimp only at this
    split at this
    · rename_i C hC
      simp only [Bool.and_eq_true] at this
      obtain ⟨⟨⟨⟨⟨⟨⟨k1, k2⟩, k3⟩, k4⟩, k5⟩, k6⟩, k7⟩, k8⟩ := this
      refine ⟨C, hC, k1, k2, k3, ⟨k4, eq_of_beq k5, k6, fun x hx => ?_⟩, fun m d e' => ?_⟩
      · have := List.all_eq_true.mp k7 _ hx
        try dsimp only at this
        split at this
        · rename_i attr ha
          simp only [Bool.and_eq_true] at this
          exact ⟨attr, ha, this.1, eq_of_beq this.2⟩
        · cases this
      have := List.all_eq_true.mp k8 _ (lookup_mem e')
      dsimp only at this
      split at this
      · rename_i f hf
        simp only [Bool.and_eq_true] at this
        exact ⟨f, hf, this.1, this.2⟩
      · cases this
    · cases this
  · have := List.all_eq_true.mp h5 _ (lookup_mem e)
    dsimp only at this
    split at this
    · rename_i u hu; exact ⟨u, hu, this⟩
    · cases this
  · have := List.all_eq_true.mp h3 _ hx
    exact eq_of_beq this
  · have := List.all_eq_true.mp h4 _ hx
    exact eq_of_beq this

theorem vBool_of {v : Value} {x : Bool} (h : vBool v = some x) : v = .bool x := by
  unfold vBool at h
  split at h
  · cases h; rfl
  · cases h
theorem vRef_of {v : Value} {x : Addr} (h : vRef v = some x) : v = .ref x := by
  unfold vRef at h
  split at h
  · cases h; rfl
  · cases h
theorem vStr_of {v : Value} {x : Str} (h : vStr v = some x) : ∃ t, v = .str x t := by
  unfold vStr at h
  split at h
  · cases h; exact ⟨_, rfl⟩
  · cases h
theorem vInt_of {v : Value} {i : Int} (h : vInt v = some i) : ∃ t, v = .int i t := by
  unfold vInt at h
  split at h
  · cases h; exact ⟨_, rfl⟩
  · cases h
theorem dctIn_of {a : Addr} {d : List DictEntry × Nat} (h : dctIn K a = some d) : K.lookup a = some (dctO d.1 d.2) := by
  unfold dctIn at h
  split at h
  · rename_i t ds n sl e
    split at h
    · rename_i hc
      simp only [Bool.and_eq_true] at hc
      have e1 := eq_of_beq hc.1
      have e2 : sl = #[] := by simpa using hc.2
      subst e1; subst e2
      cases h
      rw [e]
    · cases h
  · cases h
theorem VRel_of_mtV {u : Value} {v : RV} (h : mtV K u v = true) : VRel K led fr v u := by
  cases v with
  | bool b => rw [vBool_of (eq_of_beq h)]; exact .bool b
  | int i => obtain ⟨t, rfl⟩ := vInt_of (eq_of_beq h); exact .int i t
  | str s => obtain ⟨t, rfl⟩ := vStr_of (eq_of_beq h); exact .str s t
  | fdict es =>
    unfold mtV at h
    dsimp only at h
    cases hr : vRef u with
    | none => rw [hr] at h; cases h
    | some a =>
      rw [hr] at h
      simp only [Bool.and_eq_true] at h
      obtain ⟨h1, h2⟩ := h
      cases hd : dctIn K a with
      | none => rw [hd] at h2; cases h2
      | some d =>
        rw [hd] at h2
        simp only [Bool.and_eq_true, decide_eq_true_eq, Bool.not_eq_true'] at h2
        rw [vRef_of hr]
        exact .fdict (eq_of_beq h1) (dctIn_of hd) h2.1.1 h2.1.2 h2.2
  | _ => exact absurd h Bool.false_ne_true
theorem VsRel_of_mtV : ∀ (vs : List Value) (us : List RV), vs.length = us.length → ((vs.zip us).all fun p => mtV K p.1 p.2) = true → VsRel K led fr us vs
  | [], [], _, _ => .nil
  | v :: vs, u :: us, hl, h => by
    simp only [List.zip_cons_cons, List.all_cons, Bool.and_eq_true] at h
    exact .cons (VRel_of_mtV h.1) (VsRel_of_mtV vs us (by simpa using hl) h.2)
  | [], _ :: _, hl, _ => by simp at hl
  | _ :: _, [], hl, _ => by simp at hl

theorem name_glb {G : RProg} {x : String} {pos : Pos} {Qr : PV} {Q : Value → Shared → Prop} (O : ProgOk K G) (a : Act prog K p loose mg mb A fenv h₀ L n)
    (hx : ns.lookup (Str.ofString x) = some .globalImplicit) (hb : dbg (Str.ofString x) = false)
    (e : EnvOk env ns L mF mL fr) (r : Rel P K h₀ L mF led fr H s)
    (hw : match globR G x with | some v => Qr v H | none => False) (hQ : EPost P K h₀ L mF led fr s Qr Q) :
    wpAny (model prog w) A (eval (.Name (Str.ofString x) pos) env) Q E s := by
  simp only [dbg, Bool.or_eq_false_iff] at hb
  have kin : env.kindOf (Str.ofString x) = some .globalImplicit := by
    rcases e.kin _ _ hx with h | ⟨h, _⟩
    · exact h
    · cases h
  have glob : ∀ u v, nsIn K mainGlobals (Str.ofString x) = some (some u) → globR G x = some v → VRel K led fr v u → wpAny (model prog w) A (eval (.Name (Str.ofString x) pos) env) Q E s := fun u v h1 h2 h3 => by
    rw [h2] at hw
    refine Name_function_global e.knd kin (loadGlobal_global (mg := mg) ?_ (mg_of a.X a.T.g h1) (hQ v u led fr H s hw h3 r (Ext.refl _) (Sub.refl _) (Sm.refl _))) hb.1.1
    rw [e.gl]; exact a.T.g.keeps r.F.keep
  have built : ∀ u v, nsIn K mainGlobals (Str.ofString x) = some none → bootBuiltins (Str.ofString x) = some u → Str.ofString x ≠ ("__name__" : Str) → globR G x = some v → VRel K led fr v u → wpAny (model prog w) A (eval (.Name (Str.ofString x) pos) env) Q E s := fun u v h1 h1' h1'' h2 h3 => by
    rw [h2] at hw
    refine Name_function_global e.knd kin (loadGlobal_builtin (mg := mg) (mb := mb) ?_ (mg_none_of a.X a.T.g h1) ?_ ((a.T.builtins _ h1'').trans h1') (hQ v u led fr H s hw h3 r (Ext.refl _) (Sub.refl _) (Sm.refl _))) hb.1.1
    · rw [e.gl]; exact a.T.g.keeps r.F.keep
    · rw [e.bl]; exact a.T.b.keeps r.F.keep
  have hg : globR G x = globR G x := rfl
  conv at hg => rhs; unfold globR
  split at hg
  · rename_i h
    obtain ⟨d, hd⟩ := Option.isSome_iff_exists.mp h
    obtain ⟨f, hf, _⟩ := O.fn x d hd
    exact glob _ _ hf hg (.fn hf)
  · split at hg
    · rename_i h
      obtain ⟨d, hd⟩ := Option.isSome_iff_exists.mp h
      obtain ⟨f, hf, _⟩ := O.cl x d hd
      exact glob _ _ hf hg (.cls hf)
    · split at hg
      · rename_i v hv
        obtain ⟨u, hu, hm⟩ := O.vl x v hv
        exact glob _ _ hu hg (VRel_of_mtV hm)
      · split at hg
        · rename_i h
          have hm : x ∈ biNames := by simpa using h
          exact built _ _ (O.bi x hm) (boot_bi x hm) (ne_name_bi x (List.mem_append.mpr (.inl hm))) hg (.bi x)
        · split at hg
          · rename_i h
            have hm : x ∈ tyNames := by simpa using h
            exact built _ _ (O.ty x hm) (boot_ty x hm) (ne_name_bi x (List.mem_append.mpr (.inr hm))) hg (.ty x)
          · rw [hg] at hw; exact hw.elim
end
end Mine

namespace Mine
open PySem PySem.W PySem.Calls PyProof.Rows

section
variable {prog : Program} {w : World} {K : Frag} {p : Program} {loose : List Str} {mg mb : Str → Option Value} {A : Around} {fenv env : Env} {ns : Ns} {h₀ : Heap} {L : Addr} {n : Nat} {mF mL : Str → Option Value}
  {led led' : Led} {fr fr' : Frz} {H H' : RH} {loc : Loc} {s s' : Shared} {E : Value → Shared → Prop} {P : Params} {Qr : PV} {Q : Value → Shared → Prop}

theorem Rel.addFr (r : Rel P K h₀ L mF led fr H s) {a : Addr} {o : Obj} (F' : Fr h₀ L s'.heap mF) (N' : News h₀ L s'.heap ((a, o) :: (led.flatten ++ fr))) (ha : a ∉ led.flatten.map (·.1)) :
    Rel P K h₀ L mF led ((a, o) :: fr) H s' := by
  refine ⟨r.Z, F', fun p hp => ?_, r.D, fun p hp => ?_, r.R.mono fun p h => .tail _ h⟩
  · rcases List.mem_append.mp hp with h | h
    · exact N' p (.tail _ (List.mem_append.mpr (.inl h)))
    · rcases List.mem_cons.mp h with rfl | h
      · exact N' _ (.head _)
      · exact N' p (.tail _ (List.mem_append.mpr (.inr h)))
  · rcases List.mem_cons.mp hp with rfl | h
    · exact ha
    · exact r.X p h
theorem Rel.addOb (r : Rel P K h₀ L mF led fr H s) {a : Addr} {o : Obj} {ro : RO} (F' : Fr h₀ L s'.heap mF) (N' : News h₀ L s'.heap ((a, o) :: (led.flatten ++ fr))) (ha : a ∉ (led.flatten ++ fr).map (·.1))
    (hr : ORel P K (led ++ [[(a, o)]]) fr ro [(a, o)]) : Rel P K h₀ L mF (led ++ [[(a, o)]]) fr (H ++ [ro]) s' := by
  refine ⟨r.Z, F', ?_, ?_, ?_, ⟨by simp [r.R.1], fun i x e => ?_⟩⟩
  · intro p hp
    simp only [List.flatten_append, List.mem_append, List.flatten_cons, List.flatten_nil, List.append_nil, List.mem_singleton] at hp
    rcases hp with (h | h) | h
    · exact N' p (.tail _ (List.mem_append.mpr (.inl h)))
    · subst h; exact N' _ (.head _)
    · exact N' p (.tail _ (List.mem_append.mpr (.inr h)))
  · simp only [List.map_append, List.mem_append, not_or] at ha
    simp only [List.flatten_append, List.flatten_cons, List.flatten_nil, List.append_nil, List.map_append, List.map_cons, List.map_nil]
    rw [List.nodup_append]
    refine ⟨r.D, by simp, ?_⟩
    intro x hx b hb e
    simp only [List.mem_singleton] at hb
    subst hb; subst e
    exact ha.1 hx
  · intro p hp q
    simp only [List.flatten_append, List.flatten_cons, List.flatten_nil, List.append_nil, List.map_append, List.map_cons, List.map_nil, List.mem_append, List.mem_singleton] at q
    rcases q with q | q
    · exact r.X p hp q
    · simp only [List.map_append, List.mem_append, not_or] at ha
      exact ha.2 (q ▸ List.mem_map_of_mem hp)
  · by_cases hi : i < H.length
    · rw [List.getElem?_append_left hi] at e
      obtain ⟨b, hb, x'⟩ := r.R.2 i x e
      exact ⟨b, by rw [List.getElem?_append_left (by rw [r.R.1]; exact hi)]; exact hb, x'.mono (adr_snoc _) (Sub.refl _)⟩
    · have hi' : i = H.length := by
        have : i < (H ++ [ro]).length := by
          by_cases h : i < (H ++ [ro]).length
          · exact h
          · rw [List.getElem?_eq_none (by omega)] at e; cases e
        simp at this; omega
      subst hi'
      rw [List.getElem?_append_right (Nat.le_refl _), Nat.sub_self] at e
      cases e
      refine ⟨_, ?_, hr⟩
      rw [← r.R.1, List.getElem?_append_right (Nat.le_refl _), Nat.sub_self]; rfl

theorem VsRel.length {us : List RV} {vs : List Value} (h : VsRel K led fr us vs) : us.length = vs.length := by
  induction us generalizing vs with
  | nil => cases h; rfl
  | cons u us ih => cases h with | cons _ r => simp [ih r]
theorem VsRel.append {us us' : List RV} {vs vs' : List Value} (h : VsRel K led fr us vs) (h' : VsRel K led fr us' vs') : VsRel K led fr (us ++ us') (vs ++ vs') := by
  induction us generalizing vs with
  | nil => cases h; exact h'
  | cons u us ih => cases h with | cons x r => exact .cons x (ih r)
theorem VsRel.get {us : List RV} {vs : List Value} (h : VsRel K led fr us vs) : ∀ (k : Nat) (u : RV), us[k]? = some u → ∃ v, vs[k]? = some v ∧ VRel K led fr u v := by
  induction us generalizing vs with
  | nil => intro k u e; simp at e
  | cons u us ih =>
    cases h with
    | cons x r =>
      intro k u' e
      cases k with
      | zero => simp at e; subst e; exact ⟨_, rfl, x⟩
      | succ k => simp at e; simpa using ih r k u' e

/-- an object's block, out of its number -/
theorem Rel.list_at (r : Rel P K h₀ L mF led fr H s) {i : Nat} {us : List RV} {a : Addr} (e : H[i]? = some (.list us)) (ha : adr led i = some a) :
    ∃ vs n, VsRel K led fr us vs ∧ led[i]? = some [(a, lstO vs n)] ∧ (a, lstO vs n) ∈ led.flatten ∧ s.heap.get? a = some (lstO vs n) := by
  obtain ⟨b, hb, x⟩ := r.R.2 i _ e
  cases x with
  | list x =>
    rename_i vs a' n
    unfold adr at ha
    rw [hb] at ha
    cases ha
    have m := mem_flat hb (List.mem_singleton.mpr rfl)
    exact ⟨_, _, x, hb, m, r.at (List.mem_append.mpr (.inl m))⟩
theorem isList_of {h : Heap} {a : Addr} {vs : List Value} {n : Nat} (e : h.get? a = some (lstO vs n)) : h.IsList a vs.toArray := ⟨_, e, rfl, n, rfl⟩

theorem small_bits {x : Int} (h : smallI x) : Builtin.Int.intBits x ≤ 64 := by
  unfold smallI at h
  unfold Builtin.Int.intBits
  split
  · omega
  · have hz : x.natAbs ≠ 0 := by
      intro h0
      rename_i hx
      have : x = 0 := by omega
      simp [this] at hx
    have := (Nat.log2_lt hz).mpr h
    omega

theorem bin_ok {op : Operator} {x y : RV} {u v : Value} (a : Act prog K p loose mg mb A fenv h₀ L n) (r : Rel P K h₀ L mF led fr H s) (hx : VRel K led fr x u) (hy : VRel K led fr y v)
    (hw : binR op x y H Qr) (hQ : EPost P K h₀ L mF led fr s Qr Q) : wpAny (model prog w) A (binaryOp op u v) Q E s := by
  have int : ∀ i t, Qr (.int i) H → Q (.int i s.toks) { s with toks := t } := fun i t h => hQ _ _ led fr H _ h (.int _ _) (r.toks _) (Ext.refl _) (Sub.refl _) ((Sm.refl s).with s.heap t)
  unfold binR at hw
  split at hw
  · obtain ⟨_, rfl⟩ := hx.int_inv; obtain ⟨_, rfl⟩ := hy.int_inv; exact _root_.PySem.P.add_int (int _ _ hw)
  · obtain ⟨_, rfl⟩ := hx.int_inv; obtain ⟨_, rfl⟩ := hy.int_inv; exact _root_.PySem.P.sub_int (int _ _ hw)
  · obtain ⟨_, rfl⟩ := hx.int_inv; obtain ⟨_, rfl⟩ := hy.int_inv; exact _root_.PySem.P.mul_int (int _ _ hw.2.2) (IntMulOk.of_left (small_bits hw.1))
  · obtain ⟨_, rfl⟩ := hx.int_inv; obtain ⟨_, rfl⟩ := hy.int_inv; exact mod_int' hw.1 (int _ _ hw.2)
  · obtain ⟨_, rfl⟩ := hx.str_inv; obtain ⟨_, rfl⟩ := hy.str_inv
    refine add_str (fun t₁ t₂ => hQ _ _ led fr H _ hw.2 (.str _ _) (r.toks _) (Ext.refl _) (Sub.refl _) ((Sm.refl s).with s.heap t₂)) ?_
    have := hw.1
    rw [Str.length_append] at this
    exact this
  · split at hw
    · rename_i i j xs ys hi hj
      obtain ⟨_, rfl, ha⟩ := hx.ref_inv
      obtain ⟨_, rfl, hb⟩ := hy.ref_inv
      obtain ⟨vs, n1, R1, _, m1, g1⟩ := r.list_at hi ha
      obtain ⟨ws, n2, R2, _, m2, g2⟩ := r.list_at hj hb
      refine add_lists r.F r.N (isList_of g1) (isList_of g2) (fun h' F' N' => ?_) ?_
      · have hfresh := r.fresh
        have hE : Ext led (led ++ [[(s.heap.objs.size, lstO (vs ++ ws) 0)]]) := adr_snoc _
        refine hQ _ _ (led ++ [[(s.heap.objs.size, lstO (vs ++ ws) 0)]]) fr (H ++ [.list (xs ++ ys)]) _ hw.2 ?_ (r.addOb (s' := { s with heap := h' }) F' N' hfresh (.list ((R1.mono hE (Sub.refl _)).append (R2.mono hE (Sub.refl _))))) hE (Sub.refl _) ((Sm.refl s).with h' s.toks)
        rw [← r.R.1]; exact .ref (adr_last _ _)
      · rw [← R1.length, ← R2.length, ← List.length_append]; exact hw.1
    · exact hw.elim
  · exact hw.elim
end
end Mine

namespace Mine
open PySem PySem.W PySem.Calls PyProof.Rows PySem.SeqAt

section
variable {prog : Program} {w : World} {K : Frag} {p : Program} {loose : List Str} {mg mb : Str → Option Value} {A : Around} {fenv env : Env} {ns : Ns} {h₀ : Heap} {L : Addr} {n : Nat} {mF mL : Str → Option Value}
  {led led' : Led} {fr fr' : Frz} {H H' : RH} {loc : Loc} {s s' : Shared} {E : Value → Shared → Prop} {P : Params} {Qr : PV} {Q : Value → Shared → Prop}

theorem Act.in (a : Act prog K p loose mg mb A fenv h₀ L n) (r : Rel P K h₀ L mF led fr H s) : K.In s.heap := a.X.keeps r.F.keep
theorem Rel.imm (r : Rel P K h₀ L mF led fr H s) (X : K.In h₀) {a : Addr} {o : Obj} (i : Imm K fr a o) : s.heap.get? a = some o :=
  i.elim (fun h => r.at (List.mem_append.mpr (.inr h))) fun h => (X.keeps r.F.keep) _ _ h

theorem reads0 {v : RV} {u : Value} {d : PyData} (h : VRel K led fr v u) (e : toPD0 v = some d) : ∃ as, Reads s.heap u d as := by
  unfold toPD0 at e
  split at e
  · cases e; rw [h.bool_inv]; exact ⟨_, .bool _⟩
  · cases e; obtain ⟨_, rfl⟩ := h.int_inv; exact ⟨_, .int _ _⟩
  · cases e; obtain ⟨_, rfl⟩ := h.str_inv; exact ⟨_, .str _ _⟩
  · cases e
theorem reads_all {us : List RV} : ∀ {vs : List Value} {ds : List PyData}, VsRel K led fr us vs → toPDs us = some ds → ∃ as, ReadsAll s.heap vs ds as := by
  induction us with
  | nil =>
    intro vs ds h e
    rw [h.nil_inv]
    cases e
    exact ⟨_, .nil⟩
  | cons u us ih =>
    intro vs ds h e
    obtain ⟨y, ys, rfl, a, b⟩ := h.cons_inv
    unfold toPDs at e
    split at e
    · rename_i d h1
      simp only [Option.map_eq_some_iff] at e
      obtain ⟨l, h2, rfl⟩ := e
      obtain ⟨as, ra⟩ := reads0 (s := s) a h1
      obtain ⟨bs, rb⟩ := ih b h2
      exact ⟨_, .cons ra rb⟩
    · cases e
theorem reads_of (r : Rel P K h₀ L mF led fr H s) (X : K.In h₀) {v : RV} {u : Value} {d : PyData} (h : VRel K led fr v u) (e : toPD v = some d) : ∃ as, Reads s.heap u d as := by
  unfold toPD at e
  split at e
  · simp only [Option.map_eq_some_iff] at e
    obtain ⟨ds, h1, rfl⟩ := e
    obtain ⟨a, vs, n, rfl, i, rs⟩ := h.tup_inv
    obtain ⟨as, ra⟩ := reads_all (s := s) rs h1
    exact ⟨_, .tuple (r.imm X i) rfl rfl (by simpa using ra)⟩
  · exact reads0 h e
theorem reads_ofH (r : Rel P K h₀ L mF led fr H s) (X : K.In h₀) {v : RV} {u : Value} {d : PyData} (h : VRel K led fr v u) (e : toPDH H v = some d) : ∃ as, Reads s.heap u d as := by
  unfold toPDH at e
  split at e
  · split at e
    · rename_i vs hi
      simp only [Option.map_eq_some_iff] at e
      obtain ⟨ds, h1, rfl⟩ := e
      obtain ⟨_, rfl, ha⟩ := h.ref_inv
      obtain ⟨us, n, R1, _, m1, g1⟩ := r.list_at hi ha
      obtain ⟨as, ra⟩ := reads_all (s := s) R1 h1
      exact ⟨_, .list g1 rfl rfl (by simpa using ra)⟩
    · cases e
  · exact reads_of r X h e

/-- a step that leaves our heap as it is -/
theorem EPost.same (hQ : EPost P K h₀ L mF led fr s Qr Q) {v : RV} {u : Value} (r : Rel P K h₀ L mF led fr H s) (hw : Qr v H) (hu : VRel K led fr v u) (t : Nat) : Q u { s with toks := t } :=
  hQ v u led fr H _ hw hu (r.toks t) (Ext.refl _) (Sub.refl _) ((Sm.refl s).with s.heap t)
theorem EPost.same' (hQ : EPost P K h₀ L mF led fr s Qr Q) {v : RV} {u : Value} (r : Rel P K h₀ L mF led fr H s) (hw : Qr v H) (hu : VRel K led fr v u) : Q u s :=
  hQ v u led fr H _ hw hu r (Ext.refl _) (Sub.refl _) (Sm.refl s)

/-! dicts keyed by texts -/
def kvsOf (ds : List DictEntry) : List (Str × Value) := ds.map fun e => (strOf e.key, e.val)
theorem kvs_keys (ds : List DictEntry) : (kvsOf ds).map (·.1) = ds.map fun e => strOf e.key := by simp [kvsOf]
theorem DsRel.keys {es : List (RV × RV)} {ds : List DictEntry} (h : DsRel w.params K led fr es ds) : ∀ e ∈ ds, ∃ x t, e.key = .str x t ∧ e.hash = PyData.keyHash w.params x := by
  induction h with
  | nil => intro e he; cases he
  | cons x _ ih =>
    intro e he
    rcases List.mem_cons.mp he with rfl | he
    · exact ⟨_, _, rfl, rfl⟩
    · exact ih e he
theorem DsRel.pairs {es : List (RV × RV)} {ds : List DictEntry} (h : DsRel w.params K led fr es ds) : Pairs (PySem.strKind prog w) ds (kvsOf ds) := by
  induction h with
  | nil => exact .nil
  | cons x _ ih => exact .cons (strKind_is prog w _ _) rfl ih
theorem dict_of {h : Heap} {a : Addr} {n : Nat} {es : List (RV × RV)} {ds : List DictEntry} (r : DsRel w.params K led fr es ds) (hn : (ds.map fun e => strOf e.key).Nodup) (g : h.get? a = some (dctO ds n)) :
    h.DictOf (PySem.strKind prog w) a (kvsOf ds) :=
  ⟨_, _, _, g, ⟨rfl, rfl, rfl⟩, rfl, fun e he => by
    obtain ⟨x, t, e1, e2⟩ := r.keys e (by simpa using he)
    exact ⟨x, by rw [e1]; exact strKind_is prog w x t, e2⟩, by simpa using r.pairs, by rw [kvs_keys]; exact hn⟩
theorem keyEq_str (x y : Str) : keyEq (.str x) (.str y) = (x == y) := by simp [keyEq, toPD, toPD0, PyData.eqv]
theorem DsRel.get {es : List (RV × RV)} {ds : List DictEntry} (h : DsRel w.params K led fr es ds) (x : Str) :
    (∀ v, dget es (.str x) = some v → ∃ u, valueAt (kvsOf ds) x = some u ∧ VRel K led fr v u) ∧ (dget es (.str x) = none → valueAt (kvsOf ds) x = none) := by
  induction h with
  | nil => exact ⟨fun v e => by simp [dget] at e, fun _ => rfl⟩
  | @cons y u t v fs es hv hr ih =>
    unfold dget valueAt kvsOf at ih ⊢
    simp only [List.find?_cons, List.map_cons, keyEq_str, strOf] at ih ⊢
    by_cases hy : y = x
    · subst hy
      simp only [beq_self_eq_true, decide_true, Option.map_some]
      exact ⟨fun v' e => by cases e; exact ⟨_, rfl, hv⟩, fun e => by cases e⟩
    · have h1 : (y == x) = false := by simpa using hy
      have h2 : decide (y = x) = false := by simpa using hy
      simp only [h1, h2]
      exact ih
theorem Rel.dict_at (r : Rel P K h₀ L mF led fr H s) {i : Nat} {es : List (RV × RV)} {a : Addr} (e : H[i]? = some (.dict es)) (ha : adr led i = some a) :
    ∃ ds n, DsRel P K led fr es ds ∧ (ds.map fun e => strOf e.key).Nodup ∧ led[i]? = some [(a, dctO ds n)] ∧ (a, dctO ds n) ∈ led.flatten ∧ s.heap.get? a = some (dctO ds n) := by
  obtain ⟨b, hb, x⟩ := r.R.2 i _ e
  cases x with
  | dict x d =>
    rename_i vs a' n
    unfold adr at ha
    rw [hb] at ha
    cases ha
    have m := mem_flat hb (List.mem_singleton.mpr rfl)
    exact ⟨_, _, x, d, hb, m, r.at (List.mem_append.mpr (.inl m))⟩
theorem Act.notMods (a : Act prog K p loose mg mb A fenv h₀ L n) (r : Rel P K h₀ L mF led fr H s) {q : Addr × Obj} (m : q ∈ led.flatten ++ fr) : (q.1 == sysModules) = false := by
  obtain ⟨mm, ⟨o, _, _, ho, _⟩, _⟩ := a.sr.mods
  have := (r.N q m).2.2
  cases hq : q.1 == sysModules with
  | false => rfl
  | true => rw [eq_of_beq hq, ho] at this; cases this

/-! the one written table -/
theorem asInt_of {v : RV} {i : Int} (h : asInt v = some i) : v = .int i := by
  unfold asInt at h
  split at h
  · cases h; rfl
  · cases h
theorem fd_rel {es : List (Str × RV)} : ∀ {ds : List DictEntry}, fdM es ds = true → KeysLit P ds → DsRel P K led fr (es.map fun p => (RV.str p.1, p.2)) ds ∧ (ds.map fun e => strOf e.key) = es.map (·.1) := by
  induction es with
  | nil =>
    intro ds h k
    cases ds with
    | nil => exact ⟨.nil, rfl⟩
    | cons d ds => exact absurd h Bool.false_ne_true
  | cons e es ih =>
    intro ds h k
    cases ds with
    | nil => exact absurd h Bool.false_ne_true
    | cons d ds =>
      have h : (vStr d.key == some e.1 && (asInt e.2).isSome && vInt d.val == asInt e.2 && fdM es ds) = true := h
      simp only [Bool.and_eq_true] at h
      obtain ⟨⟨⟨h1, h2⟩, h3⟩, h4⟩ := h
      obtain ⟨i, hi⟩ := Option.isSome_iff_exists.mp h2
      obtain ⟨t, ht⟩ := vStr_of (eq_of_beq h1)
      obtain ⟨u, hu⟩ := vInt_of ((eq_of_beq h3).trans hi)
      obtain ⟨x, v⟩ := e
      obtain ⟨hh, key, val⟩ := d
      have hi : v = .int i := asInt_of hi
      have ht : key = .str x t := ht
      have hu : val = .int i u := hu
      subst hi; subst ht; subst hu
      obtain ⟨⟨x', t', e, e2⟩, k'⟩ := k
      cases e
      have e2 : hh = PyData.keyHash P x := e2
      subst e2
      obtain ⟨a, b⟩ := ih h4 k'
      exact ⟨.cons (.int _ _) a, by rw [List.map_cons, List.map_cons, b]; rfl⟩
theorem fd_get (z : Str) : ∀ es : List (Str × RV), dget (es.map fun p => (RV.str p.1, p.2)) (.str z) = es.lookup z
  | [] => rfl
  | (x, v) :: es => by
    have ih := fd_get z es
    unfold dget at ih ⊢
    simp only [List.map_cons, List.find?_cons, keyEq_str, List.lookup_cons]
    by_cases h : x = z
    · subst h; simp
    · have h1 : (x == z) = false := by simpa using h
      have h2 : (z == x) = false := by simpa using fun e => h e.symm
      rw [h1, h2]
      exact ih
theorem fd_at (r : Rel w.params K h₀ L mF led fr H s) (X : K.In h₀) {a : Addr} {es : List (Str × RV)} (h : VRel K led fr (.fdict es) (.ref a)) :
    ∃ ds, s.heap.DictOf (PySem.strKind prog w) a (kvsOf ds) ∧ DsRel w.params K led fr (es.map fun p => (RV.str p.1, p.2)) ds ∧ (a == sysModules) = false := by
  obtain ⟨a₁, ds, n, ea, h1, h2, h3, h4, h5⟩ := h.fd_inv
  cases ea
  rcases r.Z with z | ⟨a', ds', n', z1, z2, z3⟩
  · rw [h1] at z; cases z
  · rw [h1] at z1
    simp only [Option.some.injEq, Value.ref.injEq] at z1
    subst z1
    rw [h2] at z2
    simp only [Option.some.injEq, Obj.mk.injEq, true_and, Data.dict.injEq, and_true] at z2
    obtain ⟨z2, _⟩ := z2
    have z2 : ds = ds' := by simpa using z2
    subst z2
    obtain ⟨R1, nd⟩ := fd_rel (K := K) (led := led) (fr := fr) h3 z3
    exact ⟨ds, dict_of (n := n) R1 (by rw [nd]; exact h4) (r.imm X (.inr h2)), R1, h5⟩

theorem keyOk_of {v : RV} (h : keyOk v = true) : ∃ z, v = .str z := by
  unfold keyOk at h
  split at h
  · exact ⟨_, rfl⟩
  · cases h
theorem in_ok {x y : RV} {u v : Value} {b : Bool} (a : Act prog K p loose mg mb A fenv h₀ L n) (r : Rel w.params K h₀ L mF led fr H s) (hx : VRel K led fr x u) (hy : VRel K led fr y v)
    (hw : inP H x y = some b) (hQ : ∀ t, Q (.bool b) { s with toks := t }) : wpAny (model prog w) A (compareOp .In u v) Q E s := by
  have uni := a.uni
  unfold inP at hw
  split at hw
  · split at hw
    · rename_i vs _ d ds h1 h2
      split at hw
      · rename_i hs
        simp only [Bool.and_eq_true] at hs
        cases hw
        obtain ⟨as, ra⟩ := reads_of r a.X hx h1
        obtain ⟨bs, rb⟩ := reads_of r a.X hy (d := .tuple ds) (by simp only [toPD, h2, Option.map_some])
        have dp := depth_of_shaped hs.1
        exact SeqAt.in_tuple_reads rb ra (canLay_of_shaped hs.2) (canLay_of_shaped hs.1) (by have := Nat.min_le_right (PyData.depthAll ds) d.depth; omega) (hQ s.toks)
      · cases hw
    · cases hw
  · split at hw
    · rename_i es _ z
      cases hw
      obtain ⟨t, rfl⟩ := hx.str_inv
      obtain ⟨a', _, _, rfl, _⟩ := hy.fd_inv
      obtain ⟨ds, D, R1, lo⟩ := fd_at (prog := prog) r a.X hy
      have G := R1.get z
      rw [fd_get] at G
      refine wpAny_in_of (strKind_is prog w z t) lo D.mapOf ?_
      cases hg : es.lookup z with
      | none => rw [hg] at hQ; rw [G.2 hg]; exact hQ _
      | some v' => rw [hg] at hQ; obtain ⟨u', hu', _⟩ := G.1 v' hg; rw [hu']; exact hQ _
    · cases hw
  · split at hw
    · cases hw
      obtain ⟨_, rfl⟩ := hx.str_inv; obtain ⟨_, rfl⟩ := hy.str_inv
      exact SB.contains (hQ s.toks)
    · cases hw
  · split at hw
    · rename_i i _ vs hi
      split at hw
      · rename_i d ds h1 h2
        split at hw
        · rename_i hs
          simp only [Bool.and_eq_true] at hs
          cases hw
          obtain ⟨as, ra⟩ := reads_of r a.X hx h1
          obtain ⟨bs, rb⟩ := reads_ofH r a.X hy (d := .list ds) (by simp only [toPDH, hi]; rw [h2]; rfl)
          have dp := depth_of_shaped hs.1
          exact SeqAt.in_list_reads rb ra (canLay_of_shaped hs.2) (canLay_of_shaped hs.1) (by have := Nat.min_le_right (PyData.depthAll ds) d.depth; omega) (hQ s.toks)
        · cases hw
      · cases hw
    · rename_i i _ es hi
      split at hw
      · rename_i hk
        obtain ⟨z, rfl⟩ := keyOk_of hk
        obtain ⟨t, rfl⟩ := hx.str_inv
        obtain ⟨_, rfl, ha⟩ := hy.ref_inv
        obtain ⟨ds, k, R1, nd, _, m, g⟩ := r.dict_at hi ha
        have M := (dict_of (prog := prog) R1 nd g).mapOf
        have G := R1.get z
        refine wpAny_in_of (strKind_is prog w z t) (a.notMods r (List.mem_append.mpr (.inl m))) M ?_
        cases hg : dget es (.str z) with
        | none => rw [hg] at hw; rw [G.2 hg]; cases hw; exact hQ _
        | some v' => rw [hg] at hw; obtain ⟨u', hu', _⟩ := G.1 v' hg; rw [hu']; cases hw; exact hQ _
      · cases hw
    · cases hw
  · cases hw

theorem notin_ok {x y : RV} {u v : Value} {b : Bool} (a : Act prog K p loose mg mb A fenv h₀ L n) (r : Rel w.params K h₀ L mF led fr H s) (hx : VRel K led fr x u) (hy : VRel K led fr y v)
    (hw : inP H x y = some b) (hQ : ∀ t, Q (.bool (!b)) { s with toks := t }) : wpAny (model prog w) A (compareOp .NotIn u v) Q E s := by
  have h := in_ok (w := w) (E := E) (Q := fun r s' => match r with | .bool b => Q (.bool (!b)) s' | _ => False) a r hx hy hw (by intro t; exact hQ t)
  show wpAny (model prog w) A (do return Value.bool (!(← contains v u))) Q E s
  have h' : wpAny (model prog w) A (do return Value.bool (← contains v u)) (fun r s' => match r with | .bool b => Q (.bool (!b)) s' | _ => False) E s := h
  refine wpAny_bind (fun Γ q hΓ => ?_)
  have h2 := h' Γ q hΓ
  simp only [Sem.wp_bind', Sem.wp_pure'] at h2
  refine Sem.wp_mono _ Γ _ (fun b p' s' hb => ?_) (fun _ _ _ x => x) q s h2
  exact wpAny_pure hb

/-- a comparison whose answer is decided on our side -/
theorem cmp_ok {op : CmpOp} {x y : RV} {u v : Value} {b : Bool} (a : Act prog K p loose mg mb A fenv h₀ L n) (r : Rel w.params K h₀ L mF led fr H s) (hx : VRel K led fr x u) (hy : VRel K led fr y v)
    (hw : cmpP H op x y = some b) (hQ : ∀ t, Q (.bool b) { s with toks := t }) : wpAny (model prog w) A (compareOp op u v) Q E s := by
  have uni := a.uni
  have here : Q (.bool b) s := hQ s.toks
  have eqc : ∀ c, eqP H x y = some c → ∃ da db as bs, Reads s.heap u da as ∧ Reads s.heap v db bs ∧ shaped da = true ∧ shaped db = true ∧ c = PyData.eqv da db := fun c e => by
    unfold eqP at e
    split at e
    · rename_i da db h1 h2
      split at e
      · rename_i hs
        simp only [Bool.and_eq_true] at hs
        cases e
        obtain ⟨as, ra⟩ := reads_ofH r a.X hx h1
        obtain ⟨bs, rb⟩ := reads_ofH r a.X hy h2
        exact ⟨da, db, as, bs, ra, rb, hs.1, hs.2, rfl⟩
      · cases e
    · cases e
  unfold cmpP at hw
  split at hw
  · obtain ⟨da, db, as, bs, ra, rb, sa, sb, rfl⟩ := eqc b hw
    exact eq_dataH ra rb sa sb (by omega) here
  · simp only [Option.map_eq_some_iff] at hw
    obtain ⟨c, hc, rfl⟩ := hw
    obtain ⟨da, db, as, bs, ra, rb, sa, sb, rfl⟩ := eqc c hc
    exact ne_dataH ra rb sa sb (by omega) here
  · obtain ⟨_, rfl⟩ := hx.int_inv; obtain ⟨_, rfl⟩ := hy.int_inv; cases hw; exact _root_.PySem.P.lt_int here
  · obtain ⟨_, rfl⟩ := hx.int_inv; obtain ⟨_, rfl⟩ := hy.int_inv; cases hw; exact _root_.PySem.P.le_int here
  · obtain ⟨_, rfl⟩ := hx.int_inv; obtain ⟨_, rfl⟩ := hy.int_inv; cases hw; exact _root_.PySem.P.gt_int here
  · obtain ⟨_, rfl⟩ := hx.int_inv; obtain ⟨_, rfl⟩ := hy.int_inv; cases hw; exact _root_.PySem.P.ge_int here
  · exact in_ok a r hx hy hw hQ
  · simp only [Option.map_eq_some_iff] at hw
    obtain ⟨c, hc, rfl⟩ := hw
    exact notin_ok a r hx hy hc hQ
  · cases hw
end
end Mine

namespace Mine
open PySem PySem.W PySem.Calls PyProof.Rows PySem.SeqAt

theorem sizeLine_is : sizeLine = 16777216 := by decide
section
variable {prog : Program} {w : World} {K : Frag} {p : Program} {loose : List Str} {mg mb : Str → Option Value} {A : Around} {fenv env : Env} {ns : Ns} {h₀ : Heap} {L : Addr} {n : Nat} {mF mL : Str → Option Value}
  {led led' : Led} {fr fr' : Frz} {H H' : RH} {loc : Loc} {s s' : Shared} {E : Value → Shared → Prop} {P : Params} {Qr : PV} {Q : Value → Shared → Prop}

theorem DsRel.length {es : List (RV × RV)} {ds : List DictEntry} (h : DsRel P K led fr es ds) : es.length = ds.length := by
  induction h with
  | nil => rfl
  | cons _ _ ih => simp [ih]
theorem isEmpty_len {vs : List Value} : (!vs.toArray.isEmpty) = (vs.length != 0) := by
  cases vs <;> simp [Array.isEmpty]
theorem truth_ok {v : RV} {u : Value} {b : Bool} {QB : Bool → Shared → Prop} (a : Act prog K p loose mg mb A fenv h₀ L n) (r : Rel w.params K h₀ L mF led fr H s) (hv : VRel K led fr v u)
    (hw : truthR H v = some b) (hQ : ∀ t, QB b { s with toks := t }) : wpAny (model prog w) A (truthy u) QB E s := by
  have sl := sizeLine_is
  unfold truthR at hw
  split at hw
  · rw [hv.bool_inv]; cases hw; exact wpAny_truthy_bool (hQ s.toks)
  · split at hw
    · split at hw
      · rename_i i _ us hi hz
        obtain ⟨_, rfl, ha⟩ := hv.ref_inv
        cases hw
        obtain ⟨vs, k, R1, _, _, g⟩ := r.list_at hi ha
        have hl := R1.length
        refine wpAny_truthy_list (isList_of g) (by simp; omega) ?_
        rw [isEmpty_len, ← hl]; exact hQ _
      · cases hw
    · cases hw
  · cases hw

theorem tup_ok {us : List RV} {vs : List Value} (r : Rel w.params K h₀ L mF led fr H s) (hv : VsRel K led fr us vs) (hl : us.length ≤ sizeLine) (hw : Qr (.tup us) H) (hQ : EPost w.params K h₀ L mF led fr s Qr Q) :
    wpAny (model prog w) A (newTuple vs) Q E s := by
  have hfresh := r.fresh
  simp only [List.map_append, List.mem_append, not_or] at hfresh
  refine newTuple_N r.F r.N (fun h' F' N' => ?_) (by rw [← hv.length]; exact hl)
  refine hQ _ _ led ((s.heap.objs.size, tupO vs 0) :: fr) H _ hw (.tup (.inl (.head _)) (hv.mono (Ext.refl _) fun p h => .tail _ h)) (r.addFr (s' := { s with heap := h' }) F' N' hfresh.1) (Ext.refl _) (fun p h => .tail _ h) ((Sm.refl s).with h' s.toks)
theorem list_ok {us : List RV} {vs : List Value} (r : Rel w.params K h₀ L mF led fr H s) (hv : VsRel K led fr us vs) (hl : us.length ≤ sizeLine) (hw : Qr (.ref H.length) (H ++ [.list us])) (hQ : EPost w.params K h₀ L mF led fr s Qr Q) :
    wpAny (model prog w) A (newList vs) Q E s := by
  have hfresh := r.fresh
  refine newList_N r.F r.N (fun h' F' N' => ?_) (by rw [← hv.length]; exact hl)
  have hE : Ext led (led ++ [[(s.heap.objs.size, lstO vs 0)]]) := adr_snoc _
  refine hQ _ _ (led ++ [[(s.heap.objs.size, lstO vs 0)]]) fr (H ++ [.list us]) _ hw ?_ (r.addOb (s' := { s with heap := h' }) F' N' hfresh (.list (hv.mono hE (Sub.refl _)))) hE (Sub.refl _) ((Sm.refl s).with h' s.toks)
  rw [← r.R.1]; exact .ref (adr_last _ _)

theorem idx_eq {k : Int} {m j : Nat} (h : idxR k m = some j) : 0 ≤ k ∧ k < 2 ^ 62 ∧ j = k.toNat ∧ j < m ∧ seqIndex? k m = some j := by
  unfold idxR at h
  split at h
  · rename_i hk
    cases h
    refine ⟨hk.1, hk.2.2, rfl, by omega, ?_⟩
    unfold seqIndex?
    have h1 : ¬ k < 0 := by omega
    simp only [h1, if_false]
    have : (decide (0 ≤ k) && decide (k < (m : Int))) = true := by simp; omega
    rw [if_pos this]
  · cases h
theorem sub_ok {value slice : Expr} {o i v : RV} {ou iu : Value} (a : Act prog K p loose mg mb A fenv h₀ L n) (r : Rel w.params K h₀ L mF led fr H s) (ho : VRel K led fr o ou) (hi : VRel K led fr i iu)
    (hs : subscripted slice false ou iu = operate [ou, iu] (getItem ou iu))
    (hw : subR H o i = some v) (hq : Qr v H) (hQ : EPost w.params K h₀ L mF led fr s Qr Q) : wpAny (model prog w) A (subscriptTail value slice ou iu) Q E s := by
  unfold subR at hw
  split at hw
  · simp only [Option.bind_eq_some_iff] at hw
    obtain ⟨j, hj, hv⟩ := hw
    obtain ⟨h0, h1, rfl, hlt, hsi⟩ := idx_eq hj
    obtain ⟨_, rfl⟩ := hi.int_inv
    obtain ⟨a', vs, o, k, rfl, im, hc, hd, rs⟩ := ho.arg_inv
    obtain ⟨u, hu, hr⟩ := rs.get _ _ hv
    have hL : s.heap.IsList a' vs.toArray := ⟨_, r.imm a.X (.inr im), hc, _, hd⟩
    exact tail_any hL.typeIs slot_list_getitem.lookup (wpAny_getItem_list hL h0 (by omega) (by simpa using hu) (hQ.same' r hq hr)) hs
  · obtain ⟨_, rfl, ha⟩ := ho.ref_inv
    split at hw
    · rename_i iv _ _ us k hH
      simp only [Option.bind_eq_some_iff] at hw
      obtain ⟨j, hj, hv⟩ := hw
      obtain ⟨h0, h1, rfl, hlt, hsi⟩ := idx_eq hj
      obtain ⟨_, rfl⟩ := hi.int_inv
      obtain ⟨vs, k', R1, _, _, g⟩ := r.list_at hH ha
      obtain ⟨u, hu, hr⟩ := R1.get _ _ hv
      have hL := isList_of g
      exact tail_any hL.typeIs slot_list_getitem.lookup (wpAny_getItem_list hL h0 (by omega) (by simpa using hu) (hQ.same' r hq hr)) hs
    · rename_i kk _ iv es hH
      split at hw
      · rename_i hk
        obtain ⟨z, rfl⟩ := keyOk_of hk
        obtain ⟨t, rfl⟩ := hi.str_inv
        obtain ⟨ds, k, R1, nd, _, m, g⟩ := r.dict_at hH ha
        have M := (dict_of (prog := prog) R1 nd g).mapOf
        obtain ⟨u, hu, hr⟩ := (R1.get z).1 v hw
        exact tail_any M.typeIs slot_dict_getitem.lookup (wpAny_getItem_of (strKind_is prog w z t) M hu (hQ.same r hq hr _)) hs
      · cases hw
    · cases hw
  · cases hw
end
end Mine

namespace Mine
open PySem PySem.W PySem.Calls PyProof.Rows PySem.SeqAt

structure Now (prog : Program) (w : World) (K : Frag) (p : Program) (loose : List Str) (mg mb : Str → Option Value) (n : Nat) (A : Around) (fenv : Env) (h₀ : Heap) (L : Addr) (env : Env) (ns : Ns) (mF mL : Str → Option Value)
    (led : Led) (fr : Frz) (loc : Loc) (H : RH) (s : Shared) : Prop where
  a : Act prog K p loose mg mb A fenv h₀ L n
  e : EnvOk env ns L mF mL fr
  l : LRel K led fr env mL loc
  r : Rel w.params K h₀ L mF led fr H s

/-- what is handed on behind a test -/
def BPost (P : Params) (K : Frag) (h₀ : Heap) (L : Addr) (mF : Str → Option Value) (led : Led) (fr : Frz) (s : Shared) (Qr : PB) (Q : Bool → Shared → Prop) : Prop :=
  ∀ b led' fr' H' s', Qr b H' → Rel P K h₀ L mF led' fr' H' s' → Ext led led' → Sub fr fr' → Sm s s' → Q b s'
/-- what is handed on behind several expressions -/
def LPost (P : Params) (K : Frag) (h₀ : Heap) (L : Addr) (mF : Str → Option Value) (led : Led) (fr : Frz) (s : Shared) (Qr : List RV → RH → Prop) (Q : List Value → Shared → Prop) : Prop :=
  ∀ vs us led' fr' H' s', Qr vs H' → VsRel K led' fr' vs us → Rel P K h₀ L mF led' fr' H' s' → Ext led led' → Sub fr fr' → Sm s s' → Q us s'

section
variable {prog : Program} {w : World} {K : Frag} {p : Program} {loose : List Str} {mg mb : Str → Option Value} {A : Around} {fenv env : Env} {ns : Ns} {h₀ : Heap} {L : Addr} {n : Nat} {mF mL : Str → Option Value}
  {led led' : Led} {fr fr' : Frz} {H H' : RH} {loc : Loc} {s s' : Shared} {E : Value → Shared → Prop} {P : Params} {Qr : PV} {Q : Value → Shared → Prop}

theorem Now.next (N : Now prog w K p loose mg mb n A fenv h₀ L env ns mF mL led fr loc H s) (r : Rel w.params K h₀ L mF led' fr' H' s') (x : Ext led led') (y : Sub fr fr') :
    Now prog w K p loose mg mb n A fenv h₀ L env ns mF mL led' fr' loc H' s' := ⟨N.a, N.e.mono y, N.l.mono x y, r⟩
theorem EPost.after (hQ : EPost P K h₀ L mF led fr s Qr Q) (x : Ext led led') (y : Sub fr fr') (z : Sm s s') : EPost P K h₀ L mF led' fr' s' Qr Q :=
  fun v u led'' fr'' H'' s'' q hv r x' y' z' => hQ v u led'' fr'' H'' s'' q hv r (x.trans x') (y.trans y') (z.trans z')
theorem BPost.after {Qr : PB} {Q : Bool → Shared → Prop} (hQ : BPost P K h₀ L mF led fr s Qr Q) (x : Ext led led') (y : Sub fr fr') (z : Sm s s') : BPost P K h₀ L mF led' fr' s' Qr Q :=
  fun v led'' fr'' H'' s'' q r x' y' z' => hQ v led'' fr'' H'' s'' q r (x.trans x') (y.trans y') (z.trans z')
theorem LPost.after {Qr : List RV → RH → Prop} {Q : List Value → Shared → Prop} (hQ : LPost P K h₀ L mF led fr s Qr Q) (x : Ext led led') (y : Sub fr fr') (z : Sm s s') : LPost P K h₀ L mF led' fr' s' Qr Q :=
  fun v u led'' fr'' H'' s'' q hv r x' y' z' => hQ v u led'' fr'' H'' s'' q hv r (x.trans x') (y.trans y') (z.trans z')
theorem BPost.same {Qr : PB} {Q : Bool → Shared → Prop} (hQ : BPost P K h₀ L mF led fr s Qr Q) {b : Bool} (r : Rel P K h₀ L mF led fr H s) (hw : Qr b H) (t : Nat) : Q b { s with toks := t } :=
  hQ b led fr H _ hw (r.toks t) (Ext.refl _) (Sub.refl _) ((Sm.refl s).with s.heap t)

theorem Act.weak (a : Act prog K p loose mg mb A fenv h₀ L n) : ActK prog K p loose mg mb A fenv h₀ L n 0 :=
  ⟨a.bel, a.frm, a.knd, a.gen, a.cor, a.gl, a.bl, a.X, a.T, a.sr, a.tr, a.hd, by have := a.dep; omega, by have := a.uni; omega⟩
/-- calls of the text's own defs are sound -/
def UOk (prog : Program) (w : World) (K : Frag) (p : Program) (loose : List Str) (mg mb : Str → Option Value) (U : UTy) (n : Nat) : Prop :=
  ∀ {A : Around} {fenv : Env} {h₀ : Heap} {L : Addr} {mF : Str → Option Value} {led : Led} {fr : Frz} {H : RH} {s : Shared} {Qr : PV} {R : Result → Shared → Prop} {d : RFn} {f : Addr} {qual : Str} {args : List RV} {vals : List Value},
    ActK prog K p loose mg mb A fenv h₀ L n 0 → mtFn K f qual d = true → VsRel K led fr args vals → Rel w.params K h₀ L mF led fr H s → U d args H Qr →
    EPost w.params K h₀ L mF led fr s Qr (fun u s' => R (.ok (.ret u)) s') → codeAny (model prog w) A (.call (.ref f) ⟨vals, []⟩) R s

theorem const_ok {c : Const} {v : RV} {k : Nat} {pos : Pos} (hm : mtC c v = true) (r : Rel w.params K h₀ L mF led fr H s) (hw : Qr v H) (hQ : EPost w.params K h₀ L mF led fr s Qr Q) :
    wpAny (model prog w) A (eval (.Constant c k pos) env) Q E s := by
  cases v with
  | none => cases c <;> simp [mtC] at hm; exact wpAny_Constant_none (hQ.same' r hw .none)
  | bool b => cases c <;> simp [mtC] at hm; subst hm; exact wpAny_Constant_bool (hQ.same' r hw (.bool _))
  | int i => cases c <;> simp [mtC] at hm; subst hm; exact wpAny_Constant_int (hQ.same r hw (.int _ _) _)
  | str x => cases c <;> simp [mtC] at hm; subst hm; exact wpAny_Constant_str (hQ.same r hw (.str _ _) _)
  | _ => cases c <;> simp [mtC] at hm

theorem not_starred {e : Expr} {r : RE} (h : mtE ns e r = true) (rest : List Expr) : starEach (e :: rest) env = (false, eval e env) :: starEach rest env := by
  cases mt_of h <;> rfl
theorem starEach_plain : ∀ {es : List Expr} {rs : List RE}, mtEs ns es rs = true → starEach es env = es.map fun e => (false, eval e env)
  | [], _, _ => rfl
  | e :: es, [], h => absurd h Bool.false_ne_true
  | e :: es, r :: rs, h => by
    simp only [mtEs_cons, Bool.and_eq_true] at h
    rw [not_starred h.1, starEach_plain h.2]; rfl
theorem backTo_plain {es : List Expr} {pos : Pos} : backTo pos (es.map fun e => (false, eval e env)) = es.map fun e => (false, eval e env) := by
  unfold backTo
  rw [List.map_map]
  exact List.map_congr_left fun e _ => rfl
theorem no_mark {op : CmpOp} {e : Expr} {r : RE} (h : mtE ns e r = true) : behindInMarks op e = false := by
  cases op <;> cases mt_of h <;> rfl
theorem sub_plain {e : Expr} {r : RE} (h : mtE ns e r = true) (o i : Value) : subscripted e false o i = operate [o, i] (getItem o i) := by
  cases mt_of h <;> rfl

/-- a call, once its callee and its arguments are there -/
theorem callWith_R {es : List Expr} {rs : List RE} {pos : Pos} {fv : Value} {first : List Value} {QL : List Value → Shared → Prop} (hm : mtEs ns es rs = true)
    (hk : ∀ h, K.In h → ∃ k, (k = Keeper.frame ∨ k = Keeper.machine ∨ k = Keeper.boundFrame) ∧ Looks (model prog w) h (keeperOf fv) k)
    (h : wpAny (model prog w) A (spliced (es.map fun e => (false, eval e env))) (fun vs s₁ => K.In s₁.heap ∧ wpAny (model prog w) A (call fv (first ++ vs)) Q E s₁) E s) :
    wpAny (model prog w) A (callWith pos fv first (backTo pos (starEach es env)) []) Q E s := by
  rw [starEach_plain hm, backTo_plain]
  cases es with
  | nil =>
    refine callWith_of (P := K.In) rfl hk ?_
    unfold evalArgs
    show wpAny (model prog w) A (spliced [] >>= _) _ E s
    refine wpAny_bind (wpAny_mono h (fun vs s' h' => ?_) fun _ _ x => x)
    refine wpAny_bind (wpAny_pure ?_)
    refine wpAny_holding ?_
    exact wpAny_bind (wpAny_pure (wpAny_bind (wpAny_pure (wpAny_pure h'))))
  | cons e es =>
    have hp : ((e :: es).map fun e => (false, eval e env)).any (·.1) = false := by
      rw [List.any_map]; simp
    refine callWith_of (P := K.In) (by rw [hp]; rfl) hk (evalArgs_plain ?_)
    exact h
end
end Mine

namespace Mine
open PySem PySem.W PySem.Calls PyProof.Rows PySem.SeqAt

theorem asStr_of {v : RV} {s : Str} (h : asStr v = some s) : v = .str s := by
  unfold asStr at h
  split at h
  · cases h; rfl
  · cases h
theorem strsP_cons {v : RV} {us : List RV} {ss : List Str} (h : strsP (v :: us) = some ss) : ∃ x l, v = .str x ∧ strsP us = some l ∧ ss = x :: l := by
  unfold strsP at h
  split at h
  · rename_i s e
    simp only [Option.map_eq_some_iff] at h
    obtain ⟨l, h1, h2⟩ := h
    exact ⟨s, l, asStr_of e, h1, h2.symm⟩
  · cases h
theorem VsRel.strs {K : Frag} {led : Led} {fr : Frz} {us : List RV} : ∀ {vs : List Value} {ss : List Str}, VsRel K led fr us vs → strsP us = some ss → StrsAre vs ss := by
  induction us with
  | nil => intro vs ss h e; rw [h.nil_inv]; cases e; exact .nil
  | cons u us ih =>
    intro vs ss h e
    obtain ⟨x, l, rfl, h1, rfl⟩ := strsP_cons e
    obtain ⟨y, ys, rfl, a, b⟩ := h.cons_inv
    obtain ⟨t, rfl⟩ := a.str_inv
    exact .cons x t (ih b h1)
theorem vs_strs {K : Frag} {led : Led} {fr : Frz} : ∀ {vs : List Value} {ss : List Str}, StrsAre vs ss → VsRel K led fr (ss.map RV.str) vs
  | _, _, .nil => .nil
  | _, _, .cons y t r => .cons (.str y t) (vs_strs r)
theorem strsP_len {us : List RV} : ∀ {ss : List Str}, strsP us = some ss → ss.length = us.length := by
  induction us with
  | nil => intro ss e; cases e; rfl
  | cons u us ih =>
    intro ss e
    obtain ⟨x, l, rfl, h1, rfl⟩ := strsP_cons e
    simp [ih h1]

/-! one order of texts -/
def leT (a b : Str) : Prop := a.cps.toList ≤ b.cps.toList
theorem leS_iff (a b : Str) : leS a b = true ↔ leT a b := by
  unfold leS leT
  simp only [Bool.not_eq_true', decide_eq_false_iff_not]
  exact List.not_lt
theorem leT_trans {a b c : Str} (x : leT a b) (y : leT b c) : leT a c := List.le_trans x y
theorem leT_total (a b : Str) : leT a b ∨ leT b a := List.le_total _ _
theorem leT_antisymm {a b : Str} (x : leT a b) (y : leT b a) : a = b := by
  have : a.cps.toList = b.cps.toList := List.le_antisymm x y
  obtain ⟨a⟩ := a; obtain ⟨b⟩ := b
  have : a = b := Array.toList_inj.mp this
  rw [this]
theorem insS_perm (x : Str) : ∀ l, (insS x l).Perm (x :: l)
  | [] => .refl _
  | y :: r => by
    unfold insS
    split
    · exact .refl _
    · exact ((insS_perm x r).cons y).trans (.swap ..)
theorem sortS_perm : ∀ l, (sortS l).Perm l
  | [] => .refl _
  | x :: r => (insS_perm x (sortS r)).trans ((sortS_perm r).cons x)
theorem insS_sorted (x : Str) : ∀ l, l.Pairwise leT → (insS x l).Pairwise leT
  | [], _ => by simp [insS]
  | y :: r, h => by
    unfold insS
    have h' := List.pairwise_cons.mp h
    split
    · rename_i hl
      have hxy := (leS_iff x y).mp hl
      refine List.pairwise_cons.mpr ⟨fun z hz => ?_, h⟩
      rcases List.mem_cons.mp hz with rfl | hz
      · exact hxy
      · exact leT_trans hxy (h'.1 z hz)
    · rename_i hl
      have hyx : leT y x := by
        rcases leT_total x y with q | q
        · exact absurd ((leS_iff x y).mpr q) hl
        · exact q
      refine List.pairwise_cons.mpr ⟨fun z hz => ?_, insS_sorted x r h'.2⟩
      rcases List.mem_cons.mp ((insS_perm x r).mem_iff.mp hz) with rfl | hz
      · exact hyx
      · exact h'.1 z hz
theorem sortS_sorted : ∀ l, (sortS l).Pairwise leT
  | [] => .nil
  | x :: r => insS_sorted x _ (sortS_sorted r)
theorem rising_pairwise : ∀ (l : List Str) (p : Str), risingS p l = true → (p :: l).Pairwise leT
  | [], p, _ => by simp
  | x :: r, p, h => by
    simp only [risingS, Bool.and_eq_true, Bool.not_eq_true', ltCps_eq, decide_eq_false_iff_not] at h
    have ih := rising_pairwise r x h.2
    have hp : leT p x := List.not_lt.mp h.1
    refine List.pairwise_cons.mpr ⟨fun z hz => ?_, ih⟩
    rcases List.mem_cons.mp hz with rfl | hz
    · exact hp
    · exact leT_trans hp ((List.pairwise_cons.mp ih).1 z hz)
theorem sorted_pairwise {l : List Str} (h : sortedS l = true) : l.Pairwise leT := by
  cases l with
  | nil => exact .nil
  | cons x r => exact rising_pairwise r x h
theorem sort_uniq {l l' : List Str} (hp : l'.Perm l) (hs : sortedS l' = true) : l' = sortS l :=
  List.Perm.eq_of_pairwise (le := leT) (fun a b _ _ => leT_antisymm) (sorted_pairwise hs) (sortS_sorted l) (hp.trans (sortS_perm l).symm)

section
variable {prog : Program} {w : World} {K : Frag} {p : Program} {loose : List Str} {mg mb : Str → Option Value} {A : Around} {fenv env : Env} {ns : Ns} {h₀ : Heap} {L : Addr} {n : Nat} {mF mL : Str → Option Value}
  {led led' : Led} {fr fr' : Frz} {H H' : RH} {loc : Loc} {s s' : Shared} {E : Value → Shared → Prop} {P : Params} {Qr : PV} {Q : Value → Shared → Prop}

/-- a new list of texts -/
theorem EPost.newStrs (hQ : EPost P K h₀ L mF led fr s Qr Q) (r : Rel P K h₀ L mF led fr H s) {D : Addr} {vs : List Value} {ss : List Str} {e : Nat} {h' : Heap} {tk : Nat} (F' : Fr h₀ L h' mF) (N' : News h₀ L h' ((D, lstO vs e) :: (led.flatten ++ fr))) (hD : D ∉ (led.flatten ++ fr).map (·.1))
    (hS : StrsAre vs ss) (hw : Qr (.ref H.length) (H ++ [.list (ss.map .str)])) : Q (.ref D) { s with heap := h', toks := tk } := by
  have hE : Ext led (led ++ [[(D, lstO vs e)]]) := adr_snoc _
  refine hQ _ _ (led ++ [[(D, lstO vs e)]]) fr (H ++ [.list (ss.map .str)]) _ hw ?_ (r.addOb (s' := { s with heap := h', toks := tk }) F' N' hD (.list (vs_strs hS))) hE (Sub.refl _) ((Sm.refl s).with h' tk)
  rw [← r.R.1]; exact .ref (adr_last _ _)
theorem Rel.beyond (r : Rel P K h₀ L mF led fr H s) {D : Addr} (h : s.heap.objs.size ≤ D) : D ∉ (led.flatten ++ fr).map (·.1) := fun hm => by
  obtain ⟨q, hq, e⟩ := List.mem_map.mp hm
  have := Heap.lt_size (r.at hq)
  rw [e] at this
  exact absurd this (Nat.not_lt.mpr h)

theorem sorted_list {i : Nat} {us : List RV} {ss : List Str} {a : Addr} (r : Rel P K h₀ L mF led fr H s) (hi : H[i]? = some (.list us)) (ha : adr led i = some a) (hs : strsP us = some ss) (h64 : ss.length < 64)
    (hw : Qr (.ref H.length) (H ++ [.list ((sortS ss).map .str)])) (hQ : EPost P K h₀ L mF led fr s Qr Q) : wpAny (model prog w) A (call (.builtin "sorted") [.ref a]) Q E s := by
  obtain ⟨vs, k, R1, _, _, g⟩ := r.list_at hi ha
  have hS := R1.strs hs
  have hl := R1.length
  have hl2 := strsP_len hs
  refine sorted_N_str r.F r.N (isList_of g) hS (by omega) fun h' vs' ss' e F' N' hS' hp' hs' => ?_
  have e1 := sort_uniq hp' hs'
  subst e1
  exact hQ.newStrs r (tk := s.toks) F' N' (r.beyond (by omega)) hS' hw

theorem keys_strs {es : List (RV × RV)} {ds : List DictEntry} {ss : List Str} (h : DsRel w.params K led fr es ds) (hs : strsP (es.map (·.1)) = some ss) : (kvsOf ds).map (·.1) = ss := by
  induction h generalizing ss with
  | nil => simp only [List.map_nil, strsP, Option.some.injEq] at hs; subst hs; rfl
  | cons x _ ih =>
    obtain ⟨x', l, e, h1, rfl⟩ := strsP_cons hs
    cases e
    have := ih h1
    simp only [kvsOf, List.map_cons, strOf] at this ⊢
    rw [this]
theorem strs_of_get : ∀ {vs : List Value} {ss : List Str}, vs.length = ss.length → (∀ (j : Nat) (v : Value), vs[j]? = some v → ∃ x t, ss[j]? = some x ∧ v = .str x t) → StrsAre vs ss
  | [], [], _, _ => .nil
  | [], _ :: _, h, _ => by simp at h
  | _ :: _, [], h, _ => by simp at h
  | v :: vs, x :: ss, hl, h => by
    obtain ⟨y, t, h1, rfl⟩ := h 0 v rfl
    simp at h1
    subst h1
    exact .cons _ t (strs_of_get (by simpa using hl) fun j v e => by simpa using h (j + 1) v (by simpa using e))
theorem sorted_dict {i : Nat} {es : List (RV × RV)} {ss : List Str} {a : Addr} (ac : Act prog K p loose mg mb A fenv h₀ L n) (r : Rel w.params K h₀ L mF led fr H s) (hi : H[i]? = some (.dict es)) (ha : adr led i = some a) (hs : strsP (es.map (·.1)) = some ss) (h64 : ss.length < 64)
    (hw : Qr (.ref H.length) (H ++ [.list ((sortS ss).map .str)])) (hQ : EPost w.params K h₀ L mF led fr s Qr Q) : wpAny (model prog w) A (call (.builtin "sorted") [.ref a]) Q E s := by
  obtain ⟨ds, k, R1, nd, _, m, g⟩ := r.dict_at hi ha
  have M := dict_of (prog := prog) R1 nd g
  obtain ⟨ep, hat⟩ := M.dictAt
  have hk := keys_strs (w := w) R1 hs
  have hkl : (kvsOf ds).length = ss.length := by rw [← hk, List.length_map]
  refine kdu_sorted (kdl_dict (knd := PySem.strKind prog w) (kvs := kvsOf ds) (ep := ep) (ac.notMods r (List.mem_append.mpr (.inl m)))) ac.hd r.F r.N hat (by rw [hkl, sizeLine_is]; omega) fun D h' tk vs F' N' hlt hl hv => ?_
  have hS : StrsAre vs ss := strs_of_get (by omega) fun j v e => by
    obtain ⟨x, y, h1, h2⟩ := hv j v e
    have h3 : ss[j]? = some x := by rw [← hk, List.getElem?_map, h1]; rfl
    obtain ⟨t, rfl⟩ := Value.isStrOf_shape h2
    exact ⟨x, t, h3, rfl⟩
  have hoL : h'.get? D = some (seqObj "list" vs.toArray 0) := (N' _ (.head _)).1
  have hDlt := Heap.lt_size hoL
  refine wpAny_call_entry PyProof.Rows.slot_list_sort ⟨_, hoL, rfl⟩ PyProof.Rows.entry_list_sort (list_sort_treeK PyProof.Rows.strKind_oneLt hoL hS.keysOf (fun v₁ v₂ rest e => keyKind_strs (by rw [← e]; exact hS)) (by omega) fun st' a1 a2 => ⟨_, rfl, ?_⟩) (PyProof.Rows.args_list_sort _)
  obtain ⟨ss', h1, h2, h3⟩ := sorted_out_str hS a1 a2
  have e1 := sort_uniq h2 h3
  subst e1
  have old : ∀ b o, b ≠ D → h'.get? b = some o → (sortedHeap h' D vs ((arrOf st').map (·.2))).get? b = some o := fun b o hb e => by rw [sortedHeap_old hb (Heap.lt_size e)]; exact e
  obtain ⟨e', he⟩ : ∃ e', (sortedHeap h' D vs ((arrOf st').map (·.2))).get? D = some (seqObj "list" ((arrOf st').map (·.2)) e') := sortedHeap_at hoL
  have hDn : D ∉ (led.flatten ++ fr).map (·.1) := fun hm => by
    obtain ⟨q, hq, e⟩ := List.mem_map.mp hm
    have := hlt q hq
    rw [e] at this
    exact absurd this (Nat.lt_irrefl _)
  have zD := (N' _ (.head _)).2
  refine hQ.newStrs r (vs := ((arrOf st').map (·.2)).toList) (e := e') (tk := tk) ?_ ?_ hDn h1 hw
  · obtain ⟨oL, es', ep', hL, r1⟩ := F'.ns
    refine ⟨⟨oL, es', ep', old L oL (fun e => zD.1 e.symm) hL, r1⟩, fun b x e => old b x (fun q => ?_) (F'.keep b x e), F'.above⟩
    rw [q, zD.2] at e; cases e
  · intro q hq
    rcases List.mem_cons.mp hq with rfl | hq
    · exact ⟨by rw [he], zD⟩
    · have := N' q (.tail _ hq)
      exact ⟨old _ _ (fun e => hDn (e ▸ List.mem_map_of_mem hq)) this.1, this.2⟩
end
end Mine

namespace Mine
open PySem PySem.W PySem.Calls PyProof.Rows PySem.SeqAt

section
variable {prog : Program} {w : World} {K : Frag} {A : Around} {h₀ : Heap} {L : Addr} {mF : Str → Option Value} {led : Led} {fr : Frz} {H : RH} {s : Shared} {E : Value → Shared → Prop} {P : Params}

theorem Rel.older (r : Rel P K h₀ L mF led fr H s) {D : Addr} (h : s.heap.objs.size ≤ D) : D ≠ L ∧ h₀.get? D = none := by
  constructor
  · obtain ⟨oL, es, ep, hL, r1⟩ := r.F.ns
    have := Heap.lt_size hL
    exact fun e => absurd (e ▸ this) (Nat.not_lt.mpr h)
  · cases e : h₀.get? D with
    | none => rfl
    | some o => exact absurd (Heap.lt_size (r.F.keep D o e)) (Nat.not_lt.mpr h)
theorem Rel.addAt (r : Rel P K h₀ L mF led fr H s) {D : Addr} {o : Obj} (g : s.heap.get? D = some o) (hD : D ∉ (led.flatten ++ fr).map (·.1)) (h0 : D ≠ L ∧ h₀.get? D = none) : Rel P K h₀ L mF led ((D, o) :: fr) H s := by
  refine ⟨r.Z, r.F, fun p hp => ?_, r.D, fun p hp => ?_, r.R.mono fun p h => .tail _ h⟩
  · rcases List.mem_append.mp hp with h | h
    · exact r.N p (List.mem_append.mpr (.inl h))
    · rcases List.mem_cons.mp h with rfl | h
      · exact ⟨g, h0⟩
      · exact r.N p (List.mem_append.mpr (.inr h))
  · rcases List.mem_cons.mp hp with rfl | h
    · simp only [List.map_append, List.mem_append, not_or] at hD
      exact hD.1
    · exact r.X p h

theorem entry_set_loop : entryFor table "set.update.loop" = some Builtin.«set.update.loop» := entryFor_of_fast (by kernel_rfl)
theorem plain_set_loop : plainId "set.update.loop" = true := by decide +kernel
theorem set_add_N {D : Addr} {S : Str → Bool} {n : Nat} {x : Str} {t : Tok} {Q : Bool → Shared → Prop} (hS : s.heap.SetOf (PySem.strKind prog w) D S n) (hroom : n + 1 < scanBound)
    (h : ∀ b h', Heap.SameBut D s.heap h' → h'.SetOf (PySem.strKind prog w) D (fun k' => S k' || decide (k' = x)) (if S x then n else n + 1) → Q b { s with heap := h', toks := s.toks + 1 }) :
    wpAny (model prog w) A (setAdd D (.str x t)) Q E s := by
  unfold setAdd
  refine wpAny_holding ?_
  refine wpAny_bind ((PySem.strKind prog w).pyHash (strKind_is prog w x t) ?_)
  exact wpAny_setAddHashed_of (s := { s with toks := s.toks + 1 }) (strKind_is prog w x t) rfl hS hroom fun h' hsb hS' => h _ h' hsb hS'
theorem set_loop {I D l : Addr} {R : Result → Shared → Prop} (hh : A.handled = none) (hDI : D ≠ I) (hlI : l ≠ I) (hlD : l ≠ D) {items : List Value} {ss : List Str} (hSt : StrsAre items ss) (hb : ss.length < 4000) :
    ∀ (k i : Nat) (s : Shared) (acc : List Str), items.length - i = k → i ≤ items.length → acc.length ≤ i → s.heap.IsListIter I l i → s.heap.IsList l items.toArray → s.heap.SetOf (PySem.strKind prog w) D (fun k => acc.contains k) acc.length →
    (∀ h' tk, (∀ b o, b ≠ I → b ≠ D → s.heap.get? b = some o → h'.get? b = some o) → h'.SetOf (PySem.strKind prog w) D (fun k => (nubA acc (ss.drop i)).contains k) (nubA acc (ss.drop i)).length → R (.ok (.ret .none)) { s with heap := h', toks := tk }) →
    codeAny (model prog w) A (.builtin "set.update.loop" ⟨[.ref D, .ref I], []⟩) R s := by
  have hlen : items.length = ss.length := StrsAre.length hSt
  intro k
  induction k with
  | zero =>
    intro i s acc hk hi hac hit hl hS hR
    refine codeAny_builtin entry_set_loop ?_
    rw [Around.under_plainId plain_set_loop _]
    show wpAny _ A.in1 (pyNext (.ref I) >>= _) _ _ s
    refine wpAny_bind (wpAny_pyNext_list_end hh hit hl (by simp; omega) fun h' he => wpAny_pure ?_)
    have := hR h' s.toks (fun b o hb _ e => he b o hb e)
    rw [List.drop_of_length_le (by omega)] at this
    refine this ?_
    obtain ⟨o, es, ep, t, g, r⟩ := hS
    exact ⟨o, es, ep, t, he D o hDI g, r⟩
  | succ k ih =>
    intro i s acc hk hi hac hit hl hS hR
    have hlt : i < ss.length := by omega
    obtain ⟨v, hv⟩ : ∃ v, items[i]? = some v := ⟨_, List.getElem?_eq_getElem (by omega)⟩
    obtain ⟨x, t, rfl, hx⟩ : ∃ x t, v = .str x t ∧ ss[i]? = some x := by
      have e1 := hSt.strs
      obtain ⟨x, t, rfl⟩ := hSt.all v (List.mem_of_getElem? hv)
      refine ⟨x, t, rfl, ?_⟩
      rw [← e1, List.getElem?_map, hv]; rfl
    have hd : ss.drop i = x :: ss.drop (i + 1) := by
      rw [List.drop_eq_getElem_cons hlt]
      rw [List.getElem?_eq_getElem hlt] at hx
      simp at hx
      rw [hx]
    refine codeAny_builtin entry_set_loop ?_
    rw [Around.under_plainId plain_set_loop _]
    show wpAny _ A.in1 (pyNext (.ref I) >>= _) _ _ s
    refine wpAny_bind (wpAny_pyNext_list_item hit hl (by simpa using hv) fun h₁ hit₁ hs₁ => ?_)
    have hS₁ : h₁.SetOf (PySem.strKind prog w) D (fun k => acc.contains k) acc.length := by
      obtain ⟨o, es, ep, t, g, r⟩ := hS
      exact ⟨o, es, ep, t, (hs₁.2 D hDI).trans g, r⟩
    refine wpAny_bind (wpAny_holding (set_add_N (s := { s with heap := h₁ }) hS₁ (by show acc.length + 1 < 4096; omega) fun b h₂ hs₂ hS₂ => ?_))
    refine wpAny_pure ⟨plainId_quiet plain_set_loop _, ?_⟩
    refine ih (i + 1) _ (if acc.contains x then acc else acc ++ [x]) (by omega) (by omega) (by by_cases hc : acc.contains x = true <;> simp only [hc, if_true, Bool.false_eq_true, if_false, List.length_append, List.length_cons, List.length_nil] <;> omega) ?_ ?_ ?_ ?_
    · exact hit₁.extBut hs₂.extBut (fun e => hDI e.symm)
    · exact (hl.extBut hs₁.extBut hlI).extBut hs₂.extBut hlD
    · have e1 : (fun k' => acc.contains k' || decide (k' = x)) = fun k' => (if acc.contains x then acc else acc ++ [x]).contains k' := by
        funext k'
        by_cases hc : acc.contains x = true
        · rw [if_pos hc]
          by_cases hk : k' = x
          · subst hk; rw [hc]; rfl
          · rw [decide_eq_false hk, Bool.or_false]
        · rw [if_neg hc]
          rw [Bool.eq_iff_iff]
          simp only [Bool.or_eq_true, decide_eq_true_eq, List.contains_iff_mem, List.mem_append, List.mem_singleton]
      have e2 : (if acc.contains x then acc.length else acc.length + 1) = (if acc.contains x then acc else acc ++ [x]).length := by
        by_cases hc : acc.contains x = true
        · rw [if_pos hc, if_pos hc]
        · rw [if_neg hc, if_neg hc, List.length_append]; rfl
      rw [← e1, ← e2]
      exact hS₂
    · intro h' tk hk' hS'
      have := hR h' tk (fun b o hbI hbD e => hk' b o hbI hbD (hs₂.extBut b o hbD (hs₁.extBut b o hbI e)))
      rw [hd] at this
      exact this hS'
end
end Mine

namespace Mine
open PySem PySem.W PySem.Calls PyProof.Rows PySem.SeqAt

theorem typeCall_set_1 (a : Value) : checkTypeCall "set" ⟨[a], []⟩ = pure () := by kernel_rfl
theorem newCall_set_1 (a : Value) : checkBuiltinCall "set.__new__" ⟨[.type "set", a], []⟩ = pure () := by kernel_rfl
section
variable {prog : Program} {w : World} {A : Around} {E : Value → Shared → Prop} {s : Shared}

theorem code_set_new1 {a : Value} {Q₁ : Value → Shared → Prop}
    (h : ∀ led : Bool, Q₁ (.ref s.heap.objs.size) { s with heap := s.heap.push { cls := .type "set", dict := none, data := .set #[] 0 (.fresh 0 0 led) } }) :
    codeAny (model prog w) A (.call (.builtin "set.__new__") ⟨[.type "set", a], []⟩) (wants Q₁ E) s := by
  refine codeAny_of_tree ?_
  show wpAny _ A.in1 (do checkBuiltinCall "set.__new__" ⟨[.type "set", a], []⟩; again (.builtin "set.__new__" ⟨[.type "set", a], []⟩)) _ _ s
  refine wpAny_bind (wpAny_of_eq (newCall_set_1 a) (wpAny_pure ⟨plainId_quiet PySem.F.plain_set_new _, codeAny_builtin PySem.F.entry_set_new ?_⟩))
  rw [Around.under_plainId PySem.F.plain_set_new _]
  unfold Builtin.«set.__new__» Builtin.Frozenset.newClass
  have hsub := sub_set_self
  obtain ⟨hp, g, d, tk, os⟩ := s
  dsimp only
  wp_walk
  refine wpAny_askSetting (wpAny_pure ?_)
  dsimp only
  simp only [newObj]
  refine wpAny_bind (wpAny_alloc (wpAny_pure ?_))
  exact wpAny_pure (h _)

theorem check_set_init1 {M : Model} {self a : Value} {Q : Unit → Shared → Prop} (hT : s.TypeIs self "set") (hQ : Q () s) :
    wpAny M A (checkBuiltinCall "set.__init__" ⟨[self, a], []⟩) Q E s := by
  simp only [checkBuiltinCall, kind_set_init, split_set_init, sig_set_init]
  refine wpAny_bind (wpAny_isInstance hT sub_set_self ?_)
  simp only [Bool.not_true, Bool.false_eq_true, if_false]
  unfold Bind.checkArgs
  dsimp only
  refine wpAny_bind (m := Bind.printed "set" true _ _) (PyProof.Rows.printed_name (by decide) ?_)
  refine wpAny_bind (m := Bind.printed "*" false _ _) (PyProof.Rows.printed_star (self := self) rfl hT fun short => ?_)
  have hrn : (Manifest.Receiver.self == Manifest.Receiver.none) = false := by decide
  have hn : (if (Manifest.Receiver.self == Manifest.Receiver.none) = true then [self, a].length else [self, a].length - 1) = 1 := by simp [hrn]
  rw [hn]
  simp only [List.map_nil]
  have hc : Bind.check ⟨.positional, "set", "*", .self, [⟨"iterable", .posOnly, false⟩]⟩ "set" short 1 [] = pure () := by
    simp [Bind.check, Bind.checkCount, Bind.isPositional]
    intro h
    exact absurd h (by decide)
  rw [hc]
  exact wpAny_pure hQ

set_option maxHeartbeats 1000000 in
theorem call_set_strs {l : Addr} {items : List Value} {ss : List Str} {Q : Value → Shared → Prop} (hh : A.handled = none) (hl : s.heap.IsList l items.toArray) (hS : StrsAre items ss) (hb : ss.length < 4000)
    (h : ∀ D o h' tk, h'.get? D = some o → s.heap.objs.size ≤ D → (∀ b o', s.heap.get? b = some o' → h'.get? b = some o') → SsObj o (nubS ss) → o.cls = .type "set" → Q (.ref D) { s with heap := h', toks := tk }) :
    wpAny (model prog w) A (call (.type "set") [.ref l]) Q E s := by
  obtain ⟨c, tl, hmro⟩ := PySem.F.called_set.mro
  have hmade := PySem.F.called_set.made
  have hsub := PySem.F.called_set.sub
  refine wpAny_call (codeAny_of_tree ?_)
  show wpAny _ _ (callAny (.type "set") _) _ _ _
  refine wpAny_pure ⟨Code.quiet_builtin _ (by decide +kernel), codeAny_builtin PySem.F.entry_type_call ?_⟩
  rw [Around.under_plain (weight_type_call_type "set" [.ref l] []) rfl]
  have h1 := PySem.F.called_set.notType
  have h2 := PySem.F.called_set.canCreate
  have hct := typeCall_set_1 (.ref l)
  repeat (any_goals (first | assumption | wp_step))
  refine codeAny_mono (code_set_new1 (E := E) (Q₁ := fun obj s₁ => ∃ led : Bool, obj = .ref s.heap.objs.size ∧ s₁ = { s with heap := s.heap.push { cls := .type "set", dict := none, data := .set #[] 0 (.fresh 0 0 led) } }) fun led => ⟨led, rfl, rfl⟩) fun r s₁ hr => ?_
  cases r with
  | error e => exact hr
  | ok fl =>
    cases fl with
    | ret obj =>
      obtain ⟨led, rfl, rfl⟩ := hr
      have hSg : (s.heap.push { cls := .type "set", dict := none, data := .set #[] 0 (.fresh 0 0 led) }).get? s.heap.objs.size = some { cls := .type "set", dict := none, data := .set #[] 0 (.fresh 0 0 led) } := Heap.get?_push_size _ rfl
      have hT : Shared.TypeIs { s with heap := s.heap.push { cls := .type "set", dict := none, data := .set #[] 0 (.fresh 0 0 led) } } (.ref s.heap.objs.size) "set" := ⟨_, hSg, rfl⟩
      have hli := PySem.F.called_set.init.lookup
      have hbi := PySem.F.called_set.init.bind (.ref s.heap.objs.size)
      repeat (any_goals (first | assumption | wp_step))
      refine codeAny_mono (codeAny_call_builtin (R := wants (fun r s₂ => r = .none ∧ Q (.ref s.heap.objs.size) s₂) E) PySem.F.called_set.init.plain PySem.F.entry_set_init (check_set_init1 hT ?_)) fun r₂ s₂ hr₂ => ?_
      · unfold Builtin.«set.__init__» noKeywords
        wp_walk
        obtain ⟨ol, hol, hcl, kl, hdl⟩ := id hl
        have hol' : (s.heap.push { cls := .type "set", dict := none, data := .set #[] 0 (.fresh 0 0 led) }).get? l = some ol := Heap.get?_push_of_some _ hol
        have hsl1 := PySem.F.sub_list_set
        have hsl2 := PySem.F.sub_list_frozenset
        have hTl : Shared.TypeIs { s with heap := s.heap.push { cls := .type "set", dict := none, data := .set #[] 0 (.fresh 0 0 led) } } (.ref l) "list" := ⟨ol, hol', hcl⟩
        wp_walk using wpAny_loadPart' hol', wpAny_typeOf hTl
        rw [hcl]
        refine wpAny_of_eq hsl1 ?_
        show wpAny _ _ (isInstance (.ref l) (.type "frozenset")) _ _ _
        refine wpAny_isInstance hTl hsl2 ?_
        simp only [Bool.false_eq_true, if_false]
        refine wpAny_bind (wpAny_typeOf hTl ?_)
        have hne : (Value.type "list" == Value.type "dict") = false := by decide
        rw [hne]
        simp only [Bool.false_eq_true, if_false]
        have hl1 : (s.heap.push { cls := .type "set", dict := none, data := .set #[] 0 (.fresh 0 0 led) }).IsList l items.toArray := ⟨ol, hol', hcl, kl, hdl⟩
        refine wpAny_bind (wpAny_pyIter_list hl1 ?_)
        have ll := Heap.lt_size hol
        generalize hH1 : s.heap.push { cls := .type "set", dict := none, data := .set #[] 0 (.fresh 0 0 led) } = H1 at *
        have sz : H1.objs.size = s.heap.objs.size + 1 := by rw [← hH1, Heap.size_push]
        have hI : (H1.push { cls := .type "list_iterator", data := .fields #[.ref l, .int 0 0] }).IsListIter H1.objs.size l 0 := ⟨_, Heap.get?_push_size _ rfl, rfl, rfl⟩
        have hl2 : (H1.push { cls := .type "list_iterator", data := .fields #[.ref l, .int 0 0] }).IsList l items.toArray := ⟨ol, Heap.get?_push_of_some _ hol', hcl, kl, hdl⟩
        have hS2 : (H1.push { cls := .type "list_iterator", data := .fields #[.ref l, .int 0 0] }).SetOf (PySem.strKind prog w) s.heap.objs.size (fun k => ([] : List Str).contains k) ([] : List Str).length :=
          ⟨_, #[], 0, _, Heap.get?_push_of_some _ hSg, ⟨rfl, rfl, rfl⟩, rfl, (fun e he => by simp at he), (fun k => by simp), by decide, by cases led <;> rfl, rfl⟩
        refine wpAny_bind (wpAny_runValue (set_loop (prog := prog) (w := w) (A := A.in1.in1) (I := H1.objs.size) (D := s.heap.objs.size) (l := l) hh (by rw [sz]; exact Nat.ne_of_lt (Nat.lt_succ_self _)) (by rw [sz]; exact Nat.ne_of_lt (Nat.lt_succ_of_lt ll)) (Nat.ne_of_lt ll) hS hb items.length 0 _ [] rfl (Nat.zero_le _) (Nat.zero_le _) hI hl2 hS2 fun h' tk hk hS' => ?_))
        obtain ⟨o, es, ep, t, g, hex, hd, _, _, _, hf, hn⟩ := hS'
        refine wpAny_pure (wpAny_pure ⟨rfl, h s.heap.objs.size o h' tk g (Nat.le_refl _) (fun b o' e => ?_) ⟨hex, es, ep, t, hd, hf, by simpa [nubS] using hn⟩ hex.1⟩)
        have lb := Heap.lt_size e
        refine hk b o' (by rw [sz]; exact Nat.ne_of_lt (Nat.lt_succ_of_lt lb)) (Nat.ne_of_lt lb) (Heap.get?_push_of_some _ (hH1 ▸ Heap.get?_push_of_some _ e))
      · cases r₂ with
        | error e => exact hr₂
        | ok fl₂ =>
          cases fl₂ with
          | ret r =>
            obtain ⟨rfl, hq⟩ := hr₂
            repeat (any_goals (first | assumption | wp_step))
          | _ => exact hr₂.elim
    | _ => exact hr.elim
end
end Mine

namespace Mine
open PySem PySem.W PySem.Calls PyProof.Rows PySem.SeqAt

section
variable {prog : Program} {w : World} {K : Frag} {p : Program} {loose : List Str} {mg mb : Str → Option Value} {A : Around} {fenv env : Env} {ns : Ns} {h₀ : Heap} {L : Addr} {n : Nat} {mF mL : Str → Option Value}
  {led led' : Led} {fr fr' : Frz} {H H' : RH} {loc : Loc} {s s' : Shared} {E : Value → Shared → Prop} {P : Params} {Qr : PV} {Q : Value → Shared → Prop}

theorem Rel.grown (r : Rel P K h₀ L mF led fr H s) {h' : Heap} {t : Nat} (hk : ∀ b o, s.heap.get? b = some o → h'.get? b = some o) : Rel P K h₀ L mF led fr H { s with heap := h', toks := t } :=
  ⟨r.Z, ⟨r.F.ns.keeps hk, fun b o e => hk _ _ (r.F.keep b o e), r.F.above⟩, fun q hq => ⟨hk _ _ (r.N q hq).1, (r.N q hq).2⟩, r.D, r.X, r.R⟩
theorem EPost.grown (hQ : EPost P K h₀ L mF led fr s Qr Q) {v : RV} {u : Value} (r : Rel P K h₀ L mF led fr H s) (hw : Qr v H) (hu : VRel K led fr v u) {h' : Heap} {t : Nat} (hk : ∀ b o, s.heap.get? b = some o → h'.get? b = some o) : Q u { s with heap := h', toks := t } :=
  hQ v u led fr H _ hw hu (r.grown hk) (Ext.refl _) (Sub.refl _) ((Sm.refl s).with h' t)

theorem bi_ok {x : String} {args : List RV} {vals : List Value} (a : Act prog K p loose mg mb A fenv h₀ L n) (r : Rel w.params K h₀ L mF led fr H s) (hv : VsRel K led fr args vals) (hw : biR x args H Qr)
    (hQ : EPost w.params K h₀ L mF led fr s Qr Q) : wpAny (model prog w) A (call (.builtin x) vals) Q E s := by
  unfold biR at hw
  split at hw
  · rename_i hx; subst hx
    split at hw
    · rename_i v
      obtain ⟨y, rfl, hu⟩ := hv.one_inv
      split at hw
      · rename_i k hk
        unfold lenR at hk
        split at hk
        · cases hk
          obtain ⟨a', vs', o', n', rfl, i, hc, hd, rs⟩ := hu.arg_inv
          have hl := rs.length
          refine len_list (items := vs'.toArray) ⟨_, r.imm a.X (.inr i), hc, n', hd⟩ (by simp only [List.size_toArray]; omega) ?_
          have := hQ.same r hw.2 (.int _ (s.toks + 1)) (s.toks + 1 + 1)
          rw [hl] at this; simpa using this
        · cases hk
          obtain ⟨a', vs', n', rfl, i, rs⟩ := hu.tup_inv
          have hl := rs.length
          refine len_tuple (items := vs'.toArray) ⟨_, r.imm a.X i, rfl, n', rfl⟩ (by simp only [List.size_toArray]; omega) ?_
          have := hQ.same r hw.2 (.int _ (s.toks + 1)) (s.toks + 1 + 1)
          rw [hl] at this; simpa using this
        · cases hk
          obtain ⟨a', o, rfl, i, hex, es, ep, t, hd, hf, hn⟩ := hu.sset_inv
          refine call_len_set (r.imm a.X i) hex hd hf (by rw [hn]; exact hw.1) ?_
          rw [hn]
          exact hQ.same r hw.2 (.int _ _) _
        · split at hk
          · rename_i i _ us hi
            cases hk
            obtain ⟨_, rfl, ha⟩ := hu.ref_inv
            obtain ⟨vs', k', R1, _, _, g⟩ := r.list_at hi ha
            have hl := R1.length
            refine len_list (isList_of g) (by simp only [List.size_toArray]; omega) ?_
            have := hQ.same r hw.2 (.int _ (s.toks + 1)) (s.toks + 1 + 1)
            rw [hl] at this; simpa using this
          · cases hk
        · cases hk
      · exact hw.elim
    · exact hw.elim
  · split at hw
    · rename_i hx; subst hx
      split at hw
      · obtain ⟨y, rfl, hu⟩ := hv.one_inv
        obtain ⟨_, rfl, ha⟩ := hu.ref_inv
        split at hw
        · rename_i vs hi
          split at hw
          · rename_i l hl
            exact sorted_list r hi ha hl hw.1 hw.2 hQ
          · exact hw.elim
        · rename_i es hi
          split at hw
          · rename_i l hl
            exact sorted_dict a r hi ha hl hw.1 hw.2 hQ
          · exact hw.elim
        · exact hw.elim
      · exact hw.elim
    · exact hw.elim
end
end Mine

namespace Mine
open PySem PySem.W PySem.Calls PyProof.Rows PySem.SeqAt

section
variable {prog : Program} {w : World} {K : Frag} {G : RProg} {U : UTy} {p : Program} {loose : List Str} {mg mb : Str → Option Value} {A : Around} {fenv env : Env} {ns : Ns} {h₀ : Heap} {L : Addr} {n : Nat} {mF mL : Str → Option Value}
  {led led' : Led} {fr fr' : Frz} {H H' : RH} {loc : Loc} {s s' : Shared} {E : Value → Shared → Prop} {P : Params} {Qr : PV} {Q : Value → Shared → Prop}

/-- an object of several pieces is made -/
theorem Rel.addBl (r : Rel P K h₀ L mF led fr H s) {b : List (Addr × Obj)} {ro : RO} (F' : Fr h₀ L s'.heap mF) (N' : News h₀ L s'.heap (b ++ (led.flatten ++ fr))) (ha : ∀ q ∈ b, q.1 ∉ (led.flatten ++ fr).map (·.1)) (hn : (b.map (·.1)).Nodup)
    (hr : ORel P K (led ++ [b]) fr ro b) : Rel P K h₀ L mF (led ++ [b]) fr (H ++ [ro]) s' := by
  refine ⟨r.Z, F', ?_, ?_, ?_, ⟨by simp [r.R.1], fun i x e => ?_⟩⟩
  · intro p hp
    simp only [List.flatten_append, List.mem_append, List.flatten_cons, List.flatten_nil, List.append_nil] at hp
    rcases hp with (h | h) | h
    · exact N' p (List.mem_append.mpr (.inr (List.mem_append.mpr (.inl h))))
    · exact N' p (List.mem_append.mpr (.inl h))
    · exact N' p (List.mem_append.mpr (.inr (List.mem_append.mpr (.inr h))))
  · simp only [List.flatten_append, List.flatten_cons, List.flatten_nil, List.append_nil, List.map_append]
    rw [List.nodup_append]
    refine ⟨r.D, hn, ?_⟩
    intro x hx y hy e
    obtain ⟨q, hq, e'⟩ := List.mem_map.mp hy
    have := ha q hq
    simp only [List.map_append, List.mem_append, not_or] at this
    exact this.1 (by rw [e', ← e]; exact hx)
  · intro p hp q
    simp only [List.flatten_append, List.flatten_cons, List.flatten_nil, List.append_nil, List.map_append, List.mem_append] at q
    rcases q with q | q
    · exact r.X p hp q
    · obtain ⟨z, hz, e'⟩ := List.mem_map.mp q
      have := ha z hz
      simp only [List.map_append, List.mem_append, not_or] at this
      exact this.2 (e' ▸ List.mem_map_of_mem hp)
  · by_cases hi : i < H.length
    · rw [List.getElem?_append_left hi] at e
      obtain ⟨b', hb, x'⟩ := r.R.2 i x e
      exact ⟨b', by rw [List.getElem?_append_left (by rw [r.R.1]; exact hi)]; exact hb, x'.mono (adr_snoc _) (Sub.refl _)⟩
    · have hi' : i = H.length := by
        have : i < (H ++ [ro]).length := by
          by_cases h : i < (H ++ [ro]).length
          · exact h
          · rw [List.getElem?_eq_none (by omega)] at e; cases e
        simp at this; omega
      subst hi'
      rw [List.getElem?_append_right (Nat.le_refl _), Nat.sub_self] at e
      cases e
      refine ⟨_, ?_, hr⟩
      rw [← r.R.1, List.getElem?_append_right (Nat.le_refl _), Nat.sub_self]; rfl

theorem Act.make (a : Act prog K p loose mg mb A fenv h₀ L n) (C : Addr) (vals : List Value) : ActK prog K p loose mg mb (A.under (.builtin "type.__call__" ⟨.ref C :: vals, []⟩)) fenv h₀ L n 0 := by
  obtain ⟨A₀, base, outer, hB, hA⟩ := a.bel
  refine ⟨⟨A₀, base, outer, hB, ?_⟩, a.frm, a.knd, a.gen, a.cor, a.gl, a.bl, a.X, a.T, a.sr, a.tr, ?_, ?_, ?_⟩
  · show pushEnvs [] A.frames = _
    rw [hA]; rfl
  · exact a.hd
  · have := a.dep
    show A.depth + 1 + 10 * n + 115 + 0 < _
    omega
  · have := a.uni
    show A.units + 1 + 40 * n + 195 + 0 < _
    omega

theorem new_ok {c : String} {C : Addr} {kl : RCls} {d : RFn} {args : List RV} {vals : List Value} (O : ProgOk K G) (hU : UOk prog w K p loose mg mb U n) (a : Act prog K p loose mg mb A fenv h₀ L n) (r : Rel w.params K h₀ L mF led fr H s)
    (hc : nsIn K mainGlobals (Str.ofString c) = some (some (.ref C))) (hk : G.clss.lookup c = some kl) (hd : kl.ms.lookup "__init__" = some d) (hv : VsRel K led fr args vals)
    (hw : U d (.ref H.length :: args) (H ++ [.inst c []]) fun r H' => r = .none ∧ Qr (.ref H.length) H') (hQ : EPost w.params K h₀ L mF led fr s Qr Q) : wpAny (model prog w) A (call (.ref C) vals) Q E s := by
  obtain ⟨C', hC', k1, k2, k3, _, k8⟩ := O.cl c kl hk
  rw [hc] at hC'
  cases hC'
  obtain ⟨f, f1, f2, f3⟩ := k8 "__init__" d hd
  refine call_cls r.F a.X r.N k1 f1 f2 fun x dx h' F' N' lt1 lt2 => ?_
  have low : ∀ q ∈ (led.flatten ++ fr).map (·.1), q < dx := fun q hq => by
    obtain ⟨z, hz, e⟩ := List.mem_map.mp hq
    rw [← e]; exact lt1 z hz
  have rr : Rel w.params K h₀ L mF (led ++ [[(x, instObj C dx), (dx, dctO [] 0)]]) fr (H ++ [.inst c []]) { s with heap := h' } := by
    refine r.addBl F' N' (fun q hq hm => ?_) ?_ (.inst hc .nil)
    · have := low _ hm
      rcases List.mem_cons.mp hq with rfl | hq
      · exact absurd (Nat.lt_trans this lt2) (Nat.lt_irrefl _)
      · rcases List.mem_cons.mp hq with rfl | hq
        · exact Nat.lt_irrefl _ this
        · cases hq
    · simp only [List.map_cons, List.map_nil, List.nodup_cons, List.mem_singleton, List.not_mem_nil, not_false_eq_true, List.nodup_nil, and_true]
      exact Nat.ne_of_gt lt2
  have hl : H.length = led.length := r.R.1.symm
  have hx : VRel K (led ++ [[(x, instObj C dx), (dx, dctO [] 0)]]) fr (.ref H.length) (.ref x) := .ref (by rw [hl]; exact adr_last _ _)
  refine hU (a.make _ _) f3 (.cons hx (hv.mono (adr_snoc _) (Sub.refl _))) rr hw ?_
  intro v u led' fr' H' s' q hv' r' x' y' z'
  obtain ⟨rfl, q⟩ := q
  cases hv'
  exact ⟨rfl, hQ _ _ led' fr' H' s' q (hx.mono x' y') r' ((adr_snoc _).trans x') y' (Sm.trans ((Sm.refl s).with h' s.toks) z')⟩
end
end Mine

namespace Mine
open PySem PySem.W PySem.Calls PyProof.Rows PySem.SeqAt

section
variable {prog : Program} {w : World} {K : Frag} {G : RProg} {U : UTy} {p : Program} {loose : List Str} {mg mb : Str → Option Value} {A : Around} {fenv env : Env} {ns : Ns} {h₀ : Heap} {L : Addr} {n : Nat} {mF mL : Str → Option Value}
  {led led' : Led} {fr fr' : Frz} {H H' : RH} {loc : Loc} {s s' : Shared} {E : Value → Shared → Prop} {P : Params} {Qr : PV} {Q : Value → Shared → Prop}

theorem ty_ok {x : String} {args : List RV} {vals : List Value} (a : Act prog K p loose mg mb A fenv h₀ L n) (r : Rel w.params K h₀ L mF led fr H s) (hv : VsRel K led fr args vals) (hw : tyR x args H Qr)
    (hQ : EPost w.params K h₀ L mF led fr s Qr Q) : wpAny (model prog w) A (call (.type x) vals) Q E s := by
  unfold tyR at hw
  split at hw
  · rename_i hx; subst hx
    split at hw
    · obtain ⟨y, rfl, hu⟩ := hv.one_inv
      obtain ⟨_, rfl⟩ := hu.int_inv
      exact call_range_1 (hQ _ _ led _ H _ hw.2 (.rng (.inl (.head _))) ((r.newFr _ rfl).toks _) (Ext.refl _) (fun p h => .tail _ h) ((Sm.refl s).with _ _))
    · exact hw.elim
  · split at hw
    · rename_i hx; subst hx
      split at hw
      · exact hw.elim
      · obtain ⟨y, rfl, hu⟩ := hv.one_inv
        obtain ⟨_, rfl, ha⟩ := hu.ref_inv
        split at hw
        · rename_i vs hi
          split at hw
          · rename_i l hl
            obtain ⟨ws, k, R1, _, _, g⟩ := r.list_at hi ha
            refine call_set_strs a.hd (isList_of g) (R1.strs hl) hw.1 fun D o h' tk g' hD hk ho hc => ?_
            have r' := r.grown (t := tk) hk
            exact hQ _ _ led ((D, o) :: fr) H _ hw.2 (.sset (.inl (.head _)) hc ho) (r'.addAt g' (r.beyond hD) (r.older hD)) (Ext.refl _) (fun p h => .tail _ h) ((Sm.refl s).with h' tk)
          · exact hw.elim
        · exact hw.elim
      · exact hw.elim
    · split at hw
      · rename_i hx; subst hx
        split at hw
        · obtain ⟨y, rfl, hu⟩ := hv.one_inv
          obtain ⟨_, rfl, ha⟩ := hu.ref_inv
          split at hw
          · rename_i vs hi
            obtain ⟨ws, k, R1, _, _, g⟩ := r.list_at hi ha
            have hl := R1.length
            refine call_tuple_list (isList_of g) (fun h' hk => ?_) (by rw [sizeLine_is]; simp only [List.size_toArray]; have := hw.1; omega)
            have r' := r.grown (t := s.toks) hk
            exact hQ _ _ led ((h'.objs.size, tupO ws 0) :: fr) H _ hw.2 (.tup (.inl (.head _)) (R1.mono (Ext.refl _) fun p h => .tail _ h)) (r'.newFr (tupO ws 0) rfl) (Ext.refl _) (fun p h => .tail _ h) ((Sm.refl s).with _ _)
          · exact hw.elim
        · exact hw.elim
      · split at hw
        · rename_i hx; subst hx
          split at hw
          · rename_i i
            obtain ⟨y, rfl, hu⟩ := hv.one_inv
            obtain ⟨_, rfl⟩ := hu.int_inv
            refine PySem.P.str_of_int ?_ (hQ.same r hw.2 (.str _ _) _)
            have h10 := hw.1
            by_cases h0 : i.natAbs = 0
            · rw [h0]; decide
            · refine Nat.lt_trans ((Nat.log2_lt h0).mpr (?_ : i.natAbs < 2 ^ 64)) (by decide)
              omega
          · exact hw.elim
        · exact hw.elim

theorem mtFn_func {f : Addr} {q : Str} {d : RFn} (h : mtFn K f q d = true) : ∃ c dd fd sl, K.lookup f = some ⟨.type c, dd, .func fd, sl⟩ := by
  unfold mtFn at h
  split at h
  · rename_i e; exact ⟨_, _, _, _, e⟩
  · cases h
theorem keep_fn {f : Addr} {q : Str} {d : RFn} (h : mtFn K f q d = true) : keepIn K (.ref f) = true := by
  obtain ⟨c, dd, fd, sl, e⟩ := mtFn_func h
  unfold keepIn
  dsimp only
  rw [e]

/-- a call, its callee and arguments there -/
theorem call_ok {f : RV} {fv : Value} {args : List RV} {vals : List Value} (O : ProgOk K G) (hU : UOk prog w K p loose mg mb U n) (a : Act prog K p loose mg mb A fenv h₀ L n) (r : Rel w.params K h₀ L mF led fr H s)
    (hf : VRel K led fr f fv) (hv : VsRel K led fr args vals) (hw : callR G U f args H Qr) (hQ : EPost w.params K h₀ L mF led fr s Qr Q) : wpAny (model prog w) A (call fv vals) Q E s := by
  unfold callR at hw
  split at hw
  · split at hw
    · rename_i x _ d hd
      obtain ⟨_, rfl, hx⟩ := hf.fn_inv
      obtain ⟨f', hf', hm⟩ := O.fn x d hd
      rw [hx] at hf'
      cases hf'
      exact wpAny_call (hU a.weak hm hv r hw hQ)
    · exact hw.elim
  · split at hw
    · rename_i _ c _ d hd
      obtain ⟨_, rfl, hx⟩ := hf.cls_inv
      cases hk : G.clss.lookup c with
      | none => rw [hk] at hd; cases hd
      | some kl =>
        rw [hk] at hd
        exact new_ok O hU a r hx hk hd hv hw hQ
    · exact hw.elim
  · rw [hf.bi_inv]; exact bi_ok a r hv hw hQ
  · rw [hf.ty_inv]; exact ty_ok a r hv hw hQ
  · exact hw.elim
theorem keeper_ok {f : RV} {fv : Value} (O : ProgOk K G) (hf : VRel K led fr f fv) (hw : callable G f = true) :
    ∀ h, K.In h → ∃ k, (k = Keeper.frame ∨ k = Keeper.machine ∨ k = Keeper.boundFrame) ∧ Looks (model prog w) h (keeperOf fv) k := by
  cases hf with
  | fn hx =>
    rename_i x a
    obtain ⟨d, hd⟩ := Option.isSome_iff_exists.mp (show (G.funs.lookup x).isSome = true from hw)
    obtain ⟨f', hf', hm⟩ := O.fn x d hd
    rw [hx] at hf'
    cases hf'
    exact keeps_K (keep_fn hm)
  | cls hx =>
    rename_i c a
    have hw : ((G.clss.lookup c).bind (·.ms.lookup "__init__")).isSome = true := hw
    cases hc : G.clss.lookup c with
    | none => rw [hc] at hw; cases hw
    | some ms =>
      obtain ⟨C, hC, _, _, hk, _⟩ := O.cl c ms hc
      rw [hx] at hC
      cases hC
      exact keeps_K hk
  | bi x => exact fun h X => ⟨.machine, .inr (.inl rfl), Looks.of_pure rfl⟩
  | ty x => exact fun h X => ⟨.machine, .inr (.inl rfl), Looks.of_pure rfl⟩
  | _ => simp [callable] at hw
end
end Mine

namespace Mine
open PySem PySem.W PySem.Calls PyProof.Rows PySem.SeqAt

section
variable (prog : Program) (w : World) (K : Frag) (G : RProg) (U : UTy) (p : Program) (loose : List Str) (mg mb : Str → Option Value) (n : Nat)
/-- an expression is sound -/
def EvOk (e : Expr) (r : RE) : Prop := ∀ {A : Around} {fenv env : Env} {ns : Ns} {h₀ : Heap} {L : Addr} {mF mL : Str → Option Value} {led : Led} {fr : Frz} {H : RH} {loc : Loc} {s : Shared} {E : Value → Shared → Prop} {Qr : PV} {Q : Value → Shared → Prop},
  mtE ns e r = true → Now prog w K p loose mg mb n A fenv h₀ L env ns mF mL led fr loc H s → wpE G U r loc H Qr → EPost w.params K h₀ L mF led fr s Qr Q → wpAny (model prog w) A (eval e env) Q E s
def EvsOk (es : List Expr) (rs : List RE) : Prop := ∀ {A : Around} {fenv env : Env} {ns : Ns} {h₀ : Heap} {L : Addr} {mF mL : Str → Option Value} {led : Led} {fr : Frz} {H : RH} {loc : Loc} {s : Shared} {E : Value → Shared → Prop} {Qr : List RV → RH → Prop} {Q : List Value → Shared → Prop},
  mtEs ns es rs = true → Now prog w K p loose mg mb n A fenv h₀ L env ns mF mL led fr loc H s → wpEs G U rs loc H Qr → LPost w.params K h₀ L mF led fr s Qr Q → wpAny (model prog w) A (spliced (es.map fun e => (false, eval e env))) Q E s
def TsOk (e : Expr) (r : RE) : Prop := ∀ {A : Around} {fenv env : Env} {ns : Ns} {h₀ : Heap} {L : Addr} {mF mL : Str → Option Value} {led : Led} {fr : Frz} {H : RH} {loc : Loc} {s : Shared} {E : Value → Shared → Prop} {Qr : PB} {Q : Bool → Shared → Prop},
  mtE ns e r = true → Now prog w K p loose mg mb n A fenv h₀ L env ns mF mL led fr loc H s → wpT G U r (fun l H' Q' => wpE G U r l H' Q') loc H Qr → BPost w.params K h₀ L mF led fr s Qr Q → wpAny (model prog w) A (isTrue e env (eval e env)) Q E s
def AllOk (es : List Expr) (rs : List RE) : Prop := ∀ {A : Around} {fenv env : Env} {ns : Ns} {h₀ : Heap} {L : Addr} {mF mL : Str → Option Value} {led : Led} {fr : Frz} {H : RH} {loc : Loc} {s : Shared} {E : Value → Shared → Prop} {Qr : PB} {Q : Bool → Shared → Prop} {op : BoolOp},
  mtEs ns es rs = true → Now prog w K p loose mg mb n A fenv h₀ L env ns mF mL led fr loc H s → wpTs G U (op == .And) rs loc H Qr → BPost w.params K h₀ L mF led fr s Qr Q → wpAny (model prog w) A (allTrue op es env) Q E s
def IfsOk (es : List Expr) (rs : List RE) : Prop := ∀ {A : Around} {fenv env : Env} {ns : Ns} {h₀ : Heap} {L : Addr} {mF mL : Str → Option Value} {led : Led} {fr : Frz} {H : RH} {loc : Loc} {s : Shared} {E : Value → Shared → Prop} {Qr : PB} {Q : Bool → Shared → Prop},
  mtEs ns es rs = true → Now prog w K p loose mg mb n A fenv h₀ L env ns mF mL led fr loc H s → wpIfs G U rs loc H Qr → BPost w.params K h₀ L mF led fr s Qr Q →
    wpAny (model prog w) A (forIn es true fun c r => if r = true then do let ok ← isTrue c env (eval c env); pure (ForInStep.yield ok) else pure (ForInStep.yield r)) Q E s
def BoolsOk (es : List Expr) (rs : List RE) : Prop := ∀ {A : Around} {fenv env : Env} {ns : Ns} {h₀ : Heap} {L : Addr} {mF mL : Str → Option Value} {led : Led} {fr : Frz} {H : RH} {loc : Loc} {s : Shared} {E : Value → Shared → Prop} {Qr : PV} {Q : Value → Shared → Prop} {op : BoolOp} {pos : Pos},
  mtEs ns es rs = true → Now prog w K p loose mg mb n A fenv h₀ L env ns mF mL led fr loc H s → wpBool G U (op == .And) rs loc H Qr → EPost w.params K h₀ L mF led fr s Qr Q → wpAny (model prog w) A (boolOp pos op (evalEach es env)) Q E s
def ChOk (es : List Expr) (rs : List RE) : Prop := ∀ {A : Around} {fenv env : Env} {ns : Ns} {h₀ : Heap} {L : Addr} {mF mL : Str → Option Value} {led : Led} {fr : Frz} {H : RH} {loc : Loc} {s : Shared} {E : Value → Shared → Prop} {Qr : PV} {Q : Value → Shared → Prop} {ops : List CmpOp} {pos : Pos} {v : RV} {u : Value},
  mtEs ns es rs = true → Now prog w K p loose mg mb n A fenv h₀ L env ns mF mL led fr loc H s → VRel K led fr v u → wpCmp G U v ops rs loc H Qr → EPost w.params K h₀ L mF led fr s Qr Q → wpAny (model prog w) A (compareChain pos u ops (evalEach es env)) Q E s
def ChTOk (es : List Expr) (rs : List RE) : Prop := ∀ {A : Around} {fenv env : Env} {ns : Ns} {h₀ : Heap} {L : Addr} {mF mL : Str → Option Value} {led : Led} {fr : Frz} {H : RH} {loc : Loc} {s : Shared} {E : Value → Shared → Prop} {Qr : PB} {Q : Bool → Shared → Prop} {ops : List CmpOp} {pos : Pos} {v : RV} {u : Value},
  mtEs ns es rs = true → Now prog w K p loose mg mb n A fenv h₀ L env ns mF mL led fr loc H s → VRel K led fr v u → wpCmpT G U v ops rs loc H Qr → BPost w.params K h₀ L mF led fr s Qr Q → wpAny (model prog w) A (testChain pos u ops (evalEach es env)) Q E s
end

section
variable {prog : Program} {w : World} {K : Frag} {G : RProg} {U : UTy} {p : Program} {loose : List Str} {mg mb : Str → Option Value} {n : Nat}

theorem marked_plain {ns : Ns} : ∀ {es : List Expr} {rs : List RE} (ops : List CmpOp) (ts : List (Sem Value)), mtEs ns es rs = true → markedEach ops es ts = ts
  | [], _, ops, ts, _ => by cases ops with
    | nil => rfl
    | cons o ops => cases ops <;> rfl
  | e :: es, [], ops, ts, h => absurd h Bool.false_ne_true
  | e :: es, r :: rs, ops, ts, h => by
    simp only [mtEs_cons, Bool.and_eq_true] at h
    cases ops with
    | nil => cases es <;> rfl
    | cons o ops =>
      cases ts with
      | nil => cases ops <;> cases es <;> rfl
      | cons t ts =>
        have ih := marked_plain ops ts h.2
        cases ops with
        | nil =>
          cases es with
          | nil =>
            cases ts with
            | nil =>
              show [markedBehindIn o e t] = [t]
              unfold markedBehindIn
              rw [no_mark h.1]
            | cons t' ts => show t :: markedEach [] [] (t' :: ts) = _; rw [ih]
          | cons e' es => show t :: markedEach [] (e' :: es) ts = _; rw [ih]
        | cons o' ops => show t :: markedEach (o' :: ops) es ts = _; rw [ih]

theorem evs_nil : EvsOk prog w K G U p loose mg mb n [] [] := by
  intro A fenv env ns h₀ L mF mL led fr H loc s E Qr Q hm N hw hQ
  exact wpAny_pure (hQ [] [] led fr H s hw .nil N.r (Ext.refl _) (Sub.refl _) (Sm.refl _))
theorem evs_cons {e : Expr} {es : List Expr} {r : RE} {rs : List RE} (h1 : EvOk prog w K G U p loose mg mb n e r) (h2 : EvsOk prog w K G U p loose mg mb n es rs) : EvsOk prog w K G U p loose mg mb n (e :: es) (r :: rs) := by
  intro A fenv env ns h₀ L mF mL led fr H loc s E Qr Q hm N hw hQ
  simp only [mtEs_cons, Bool.and_eq_true] at hm
  refine spliced_cons (h1 hm.1 N hw ?_)
  intro v u led₁ fr₁ H₁ s₁ q hv r x y z
  refine h2 hm.2 (N.next r x y) q ?_
  intro vs us led₂ fr₂ H₂ s₂ q' hvs r' x' y' z'
  exact hQ (v :: vs) (u :: us) led₂ fr₂ H₂ s₂ q' (.cons (hv.mono x' y') hvs) r' (x.trans x') (y.trans y') (z.trans z')

theorem bools_ok {es : List Expr} : ∀ {rs : List RE}, (∀ e ∈ es, ∀ r, EvOk prog w K G U p loose mg mb n e r) → BoolsOk prog w K G U p loose mg mb n es rs := by
  induction es with
  | nil =>
    intro rs ih
    intro A fenv env ns h₀ L mF mL led fr H loc s E Qr Q op pos hm N hw hQ
    cases rs with
    | nil => exact hw.elim
    | cons r rs => exact absurd hm Bool.false_ne_true
  | cons e es IH =>
    intro rs ih
    cases rs with
    | nil =>
      intro A fenv env ns h₀ L mF mL led fr H loc s E Qr Q op pos hm N hw hQ
      exact absurd hm Bool.false_ne_true
    | cons r rs =>
      intro A fenv env ns h₀ L mF mL led fr H loc s E Qr Q op pos hm N hw hQ
      simp only [mtEs_cons, Bool.and_eq_true] at hm
      cases es with
      | nil =>
        cases rs with
        | cons r' rs => exact absurd hm.2 Bool.false_ne_true
        | nil => exact ih e (.head _) r hm.1 N hw hQ
      | cons e' es =>
        cases rs with
        | nil => exact absurd hm.2 Bool.false_ne_true
        | cons r' rs =>
          rw [wpBool_two] at hw
          show wpAny (model prog w) A (do
            let v ← eval e env
            standAt pos
            let t ← holding [v] (truthy v)
            match op, t with
            | .And, false | .Or, true => pure v
            | _, _ => boolOp pos op (evalEach (e' :: es) env)) Q E s
          refine wpAny_bind (ih e (.head _) r hm.1 N hw ?_)
          intro v u led₁ fr₁ H₁ s₁ q hv rr x y z
          refine wpAny_bind (wpAny_standAt ?_)
          try dsimp only at q
          split at q
          · rename_i b hb
            refine wpAny_bind (wpAny_holding (truth_ok N.a rr hv hb fun t => ?_))
            have z' : Sm s { s₁ with toks := t } := z.with s₁.heap t
            have N' := N.next (rr.toks t) x y
            have stop : (if b = (op == .And) then False else True) → wpAny (model prog w) A (pure u) Q E { s₁ with toks := t } := fun hne => by
              have : ¬ b = (op == .And) := fun e => by rw [if_pos e] at hne; exact hne
              rw [if_neg this] at q
              exact wpAny_pure (hQ v u led₁ fr₁ H₁ _ q hv (rr.toks t) x y z')
            have go : b = (op == .And) → wpAny (model prog w) A (boolOp pos op (evalEach (e' :: es) env)) Q E { s₁ with toks := t } := fun e => by
              rw [if_pos e] at q
              exact IH (fun e he => ih e (.tail _ he)) hm.2 N' q (hQ.after x y z')
            cases op <;> cases b <;> dsimp only
            · exact stop (by decide)
            · exact go rfl
            · exact go rfl
            · exact stop (by decide)
          · exact q.elim
  

theorem alls_ok {es : List Expr} : ∀ {rs : List RE}, (∀ e ∈ es, ∀ r, TsOk prog w K G U p loose mg mb n e r) → AllOk prog w K G U p loose mg mb n es rs := by
  induction es with
  | nil =>
    intro rs ih
    intro A fenv env ns h₀ L mF mL led fr H loc s E Qr Q op hm N hw hQ
    cases rs with
    | nil =>
      exact wpAny_pure (hQ _ led fr H s hw N.r (Ext.refl _) (Sub.refl _) (Sm.refl _))
    | cons r rs => exact absurd hm Bool.false_ne_true
  | cons e es IH =>
    intro rs ih
    cases rs with
    | nil =>
      intro A fenv env ns h₀ L mF mL led fr H loc s E Qr Q op hm N hw hQ
      exact absurd hm Bool.false_ne_true
    | cons r rs =>
      intro A fenv env ns h₀ L mF mL led fr H loc s E Qr Q op hm N hw hQ
      simp only [mtEs_cons, Bool.and_eq_true] at hm
      rw [wpTs_cons] at hw
      show wpAny (model prog w) A (isTrue e env (eval e env) >>= fun t => match op, t with
        | .And, false => pure false
        | .Or, true => pure true
        | _, _ => allTrue op es env) Q E s
      refine wpAny_bind (ih e (.head _) r hm.1 N hw ?_)
      intro b led₁ fr₁ H₁ s₁ q rr x y z
      have N' := N.next rr x y
      have go : b = (op == .And) → wpAny (model prog w) A (allTrue op es env) Q E s₁ := fun e => by
        rw [if_pos e] at q
        exact IH (fun e he => ih e (.tail _ he)) hm.2 N' q (hQ.after x y z)
      have stop : ¬ b = (op == .And) → wpAny (model prog w) A (pure b) Q E s₁ := fun e => by
        rw [if_neg e] at q
        exact wpAny_pure (hQ b led₁ fr₁ H₁ _ q rr x y z)
      cases op <;> cases b <;> dsimp only
      · exact stop (by decide)
      · exact go rfl
      · exact go rfl
      · exact stop (by decide)
  

theorem forIn_false {env : Env} (es : List Expr) : (forIn es false fun c r => if r = true then do let ok ← isTrue c env (eval c env); pure (ForInStep.yield ok) else pure (ForInStep.yield r) : Sem Bool) = pure false := by
  induction es with
  | nil => rfl
  | cons e es ih =>
    rw [List.forIn_cons]
    simp only [Bool.false_eq_true, if_false] at ih ⊢
    exact ih
theorem ifs_ok {es : List Expr} : ∀ {rs : List RE}, (∀ e ∈ es, ∀ r, TsOk prog w K G U p loose mg mb n e r) → IfsOk prog w K G U p loose mg mb n es rs := by
  induction es with
  | nil =>
    intro rs ih
    intro A fenv env ns h₀ L mF mL led fr H loc s E Qr Q hm N hw hQ
    cases rs with
    | nil =>
      rw [List.forIn_nil]
      exact wpAny_pure (hQ _ led fr H s hw N.r (Ext.refl _) (Sub.refl _) (Sm.refl _))
    | cons r rs => exact absurd hm Bool.false_ne_true
  | cons e es IH =>
    intro rs ih
    cases rs with
    | nil =>
      intro A fenv env ns h₀ L mF mL led fr H loc s E Qr Q hm N hw hQ
      exact absurd hm Bool.false_ne_true
    | cons r rs =>
      intro A fenv env ns h₀ L mF mL led fr H loc s E Qr Q hm N hw hQ
      simp only [mtEs_cons, Bool.and_eq_true] at hm
      rw [wpIfs_cons] at hw
      rw [List.forIn_cons]
      simp only [if_true]
      refine wpAny_bind (wpAny_bind (ih e (.head _) r hm.1 N hw ?_))
      intro b led₁ fr₁ H₁ s₁ q rr x y z
      refine wpAny_pure ?_
      dsimp only
      have N' := N.next rr x y
      cases b with
      | true => exact IH (fun e he => ih e (.tail _ he)) hm.2 N' q (hQ.after x y z)
      | false =>
        rw [forIn_false]
        exact wpAny_pure (hQ false led₁ fr₁ H₁ _ q rr x y z)

theorem release_ok {A : Around} {E : Value → Shared → Prop} {s : Shared} {vs keep : List Value} {Q : Unit → Shared → Prop} (h : Q () s) : wpAny (model prog w) A (release vs keep) Q E s := by
  unfold release
  generalize (vs.filter fun | .ref _ => true | _ => false) = l
  have : ∀ l : List Value, wpAny (model prog w) A (release.go keep l) Q E s := by
    intro l
    induction l with
    | nil => exact wpAny_pure h
    | cons v r ih =>
      cases r with
      | nil => exact wpAny_pure h
      | cons v' r => exact wpAny_bind (wpAny_holding (wpAny_point ih))
  exact this l

theorem chs_ok {es : List Expr} : ∀ {rs : List RE}, (∀ e ∈ es, ∀ r, EvOk prog w K G U p loose mg mb n e r) → ChOk prog w K G U p loose mg mb n es rs := by
  induction es with
  | nil =>
    intro rs ih
    intro A fenv env ns h₀ L mF mL led fr H loc s E Qr Q ops pos v u hm N hv hw hQ
    cases rs with
    | nil => cases ops with
      | nil => exact hw.elim
      | cons o ops => cases ops <;> exact hw.elim
    | cons r rs => exact absurd hm Bool.false_ne_true
  | cons e es IH =>
    intro rs ih
    cases rs with
    | nil =>
      intro A fenv env ns h₀ L mF mL led fr H loc s E Qr Q ops pos v u hm N hv hw hQ
      exact absurd hm Bool.false_ne_true
    | cons r rs =>
      intro A fenv env ns h₀ L mF mL led fr H loc s E Qr Q ops pos v u hm N hv hw hQ
      simp only [mtEs_cons, Bool.and_eq_true] at hm
      cases ops with
      | nil => exact hw.elim
      | cons o ops =>
        have many : (∀ (h : wpE G U r loc H fun u H₁ => match cmpP H₁ o v u with
              | some true => wpCmp G U u ops rs loc H₁ Qr
              | some false => Qr (.bool false) H₁
              | none => False), wpAny (model prog w) A (do
            let rv ← holding [u] (eval e env)
            standAt pos
            let c ← holding [u, rv] (compareOp o u rv)
            release [u, rv] [c]
            if ← holding [c, rv] (truthy c) then compareChain pos rv ops (evalEach es env) else pure c) Q E s) := fun h => by
          refine wpAny_bind (wpAny_holding (ih e (.head _) r hm.1 N h ?_))
          intro y uy led₁ fr₁ H₁ s₁ q hy rr x₁ y₁ z₁
          refine wpAny_bind (wpAny_standAt ?_)
          try dsimp only at q
          have hv' := hv.mono x₁ y₁
          split at q
          · rename_i hc
            refine wpAny_bind (wpAny_holding (cmp_ok N.a rr hv' hy hc fun t => ?_))
            refine wpAny_bind (release_ok ?_)
            refine wpAny_bind (wpAny_holding (wpAny_truthy_bool ?_))
            exact IH (fun e he => ih e (.tail _ he)) hm.2 (N.next (rr.toks t) x₁ y₁) hy q (hQ.after x₁ y₁ (z₁.with s₁.heap t))
          · rename_i hc
            refine wpAny_bind (wpAny_holding (cmp_ok N.a rr hv' hy hc fun t => ?_))
            refine wpAny_bind (release_ok ?_)
            refine wpAny_bind (wpAny_holding (wpAny_truthy_bool ?_))
            exact wpAny_pure (hQ _ _ led₁ fr₁ H₁ _ q (.bool _) (rr.toks t) x₁ y₁ (z₁.with s₁.heap t))
          · exact q.elim
        cases ops with
        | nil =>
          cases rs with
          | nil =>
            cases es with
            | cons e' es => exact absurd hm.2 Bool.false_ne_true
            | nil =>
              rw [wpCmp_one] at hw
              refine wpAny_bind (wpAny_holding (ih e (.head _) r hm.1 N hw ?_))
              intro y uy led₁ fr₁ H₁ s₁ q hy rr x₁ y₁ z₁
              refine wpAny_bind (wpAny_standAt (wpAny_operate' ?_))
              try dsimp only at q
              split at q
              · rename_i b hc
                exact cmp_ok N.a rr (hv.mono x₁ y₁) hy hc fun t => hQ _ _ led₁ fr₁ H₁ _ q (.bool _) (rr.toks t) x₁ y₁ (z₁.with s₁.heap t)
              · exact q.elim
          | cons r' rs =>
            cases es with
            | nil => exact absurd hm.2 Bool.false_ne_true
            | cons e' es =>
              rw [wpCmp_two'] at hw
              exact many hw
        | cons o' ops =>
          rw [wpCmp_two] at hw
          exact many hw
theorem chts_ok {es : List Expr} : ∀ {rs : List RE}, (∀ e ∈ es, ∀ r, EvOk prog w K G U p loose mg mb n e r) → ChTOk prog w K G U p loose mg mb n es rs := by
  induction es with
  | nil =>
    intro rs ih
    intro A fenv env ns h₀ L mF mL led fr H loc s E Qr Q ops pos v u hm N hv hw hQ
    cases rs with
    | nil => cases ops with
      | nil => exact hw.elim
      | cons o ops => cases ops <;> exact hw.elim
    | cons r rs => exact absurd hm Bool.false_ne_true
  | cons e es IH =>
    intro rs ih
    cases rs with
    | nil =>
      intro A fenv env ns h₀ L mF mL led fr H loc s E Qr Q ops pos v u hm N hv hw hQ
      exact absurd hm Bool.false_ne_true
    | cons r rs =>
      intro A fenv env ns h₀ L mF mL led fr H loc s E Qr Q ops pos v u hm N hv hw hQ
      simp only [mtEs_cons, Bool.and_eq_true] at hm
      cases ops with
      | nil => exact hw.elim
      | cons o ops =>
        have many : (∀ (h : wpE G U r loc H fun u H₁ => match cmpP H₁ o v u with
              | some true => wpCmpT G U u ops rs loc H₁ Qr
              | some false => Qr false H₁
              | none => False), wpAny (model prog w) A (do
            let rv ← holding [u] (eval e env)
            standAt pos
            let c ← holding [u, rv] (compareOp o u rv)
            release [u, rv] [c]
            if ← holding [c, rv] (truthy c) then testChain pos rv ops (evalEach es env) else pure false) Q E s) := fun h => by
          refine wpAny_bind (wpAny_holding (ih e (.head _) r hm.1 N h ?_))
          intro y uy led₁ fr₁ H₁ s₁ q hy rr x₁ y₁ z₁
          refine wpAny_bind (wpAny_standAt ?_)
          try dsimp only at q
          have hv' := hv.mono x₁ y₁
          split at q
          · rename_i hc
            refine wpAny_bind (wpAny_holding (cmp_ok N.a rr hv' hy hc fun t => ?_))
            refine wpAny_bind (release_ok ?_)
            refine wpAny_bind (wpAny_holding (wpAny_truthy_bool ?_))
            exact IH (fun e he => ih e (.tail _ he)) hm.2 (N.next (rr.toks t) x₁ y₁) hy q (hQ.after x₁ y₁ (z₁.with s₁.heap t))
          · rename_i hc
            refine wpAny_bind (wpAny_holding (cmp_ok N.a rr hv' hy hc fun t => ?_))
            refine wpAny_bind (release_ok ?_)
            refine wpAny_bind (wpAny_holding (wpAny_truthy_bool ?_))
            exact wpAny_pure (hQ _ led₁ fr₁ H₁ _ q (rr.toks t) x₁ y₁ (z₁.with s₁.heap t))
          · exact q.elim
        cases ops with
        | nil =>
          cases rs with
          | nil =>
            cases es with
            | cons e' es => exact absurd hm.2 Bool.false_ne_true
            | nil =>
              rw [wpCmpT_one] at hw
              refine wpAny_bind (wpAny_holding (ih e (.head _) r hm.1 N hw ?_))
              intro y uy led₁ fr₁ H₁ s₁ q hy rr x₁ y₁ z₁
              refine wpAny_bind (wpAny_standAt ?_)
              try dsimp only at q
              split at q
              · rename_i b hc
                refine wpAny_bind (wpAny_operate' (cmp_ok N.a rr (hv.mono x₁ y₁) hy hc fun t => ?_))
                exact wpAny_holding (wpAny_truthy_bool (hQ _ led₁ fr₁ H₁ _ q (rr.toks t) x₁ y₁ (z₁.with s₁.heap t)))
              · exact q.elim
          | cons r' rs =>
            cases es with
            | nil => exact absurd hm.2 Bool.false_ne_true
            | cons e' es =>
              rw [wpCmpT_two'] at hw
              exact many hw
        | cons o' ops =>
          rw [wpCmpT_two] at hw
          exact many hw

end
end Mine

namespace Mine
open PySem PySem.W PySem.Calls PyProof.Rows PySem.SeqAt

section
variable {prog : Program} {w : World} {K : Frag} {G : RProg} {U : UTy} {p : Program} {loose : List Str} {mg mb : Str → Option Value} {n : Nat}

theorem ev_bin {l r : Expr} {a b : RE} {op : Operator} {pos : Pos} (h1 : EvOk prog w K G U p loose mg mb n l a) (h2 : EvOk prog w K G U p loose mg mb n r b) : EvOk prog w K G U p loose mg mb n (.BinOp l op r pos) (.bin op a b) := by
  intro A fenv env ns h₀ L mF mL led fr H loc s E Qr Q hm N hw hQ
  simp only [mtE_bin, Bool.and_eq_true] at hm
  rw [wpE_bin] at hw
  refine wpAny_BinOp (h1 hm.1.2 N hw ?_)
  intro x ux led₁ fr₁ H₁ s₁ q hx rr x₁ y₁ z₁
  refine h2 hm.2 (N.next rr x₁ y₁) q ?_
  intro y uy led₂ fr₂ H₂ s₂ q' hy rr' x₂ y₂ z₂
  exact bin_ok N.a rr' (hx.mono x₂ y₂) hy q' (hQ.after (x₁.trans x₂) (y₁.trans y₂) (z₁.trans z₂))
theorem ev_not {x : Expr} {a : RE} {pos : Pos} (h1 : EvOk prog w K G U p loose mg mb n x a) : EvOk prog w K G U p loose mg mb n (.UnaryOp .Not x pos) (.not a) := by
  intro A fenv env ns h₀ L mF mL led fr H loc s E Qr Q hm N hw hQ
  rw [mtE_not] at hm
  rw [wpE_not] at hw
  show wpAny (model prog w) A (eval x env >>= fun v => standAt pos >>= fun _ => holding [v] (unaryOp .Not v)) Q E s
  refine wpAny_bind (h1 hm N hw ?_)
  intro v u led₁ fr₁ H₁ s₁ q hv rr x₁ y₁ z₁
  refine wpAny_bind (wpAny_standAt (wpAny_holding (not_of ?_)))
  try dsimp only at q
  split at q
  · rename_i b hb
    exact truth_ok N.a rr hv hb fun t => hQ _ _ led₁ fr₁ H₁ _ q (.bool _) (rr.toks t) x₁ y₁ (z₁.with s₁.heap t)
  · exact q.elim
theorem ev_list {es : List Expr} {rs : List RE} {pos : Pos} (h : EvsOk prog w K G U p loose mg mb n es rs) : EvOk prog w K G U p loose mg mb n (.List es pos) (.list rs) := by
  intro A fenv env ns h₀ L mF mL led fr H loc s E Qr Q hm N hw hQ
  rw [mtE_list] at hm
  rw [wpE_list] at hw
  refine List_ ?_
  rw [starEach_plain hm, backTo_plain]
  refine h hm N hw ?_
  intro vs us led₁ fr₁ H₁ s₁ q hv rr x₁ y₁ z₁
  exact list_ok rr hv q.1 q.2 (hQ.after x₁ y₁ z₁)
theorem ev_tup {es : List Expr} {rs : List RE} {k : Nat} {pos : Pos} (h : EvsOk prog w K G U p loose mg mb n es rs) : EvOk prog w K G U p loose mg mb n (.Tuple es k pos) (.tup rs) := by
  intro A fenv env ns h₀ L mF mL led fr H loc s E Qr Q hm N hw hQ
  rw [mtE_tup] at hm
  rw [wpE_tup] at hw
  refine Tuple_ ?_
  rw [starEach_plain hm, backTo_plain]
  refine h hm N hw ?_
  intro vs us led₁ fr₁ H₁ s₁ q hv rr x₁ y₁ z₁
  exact tup_ok rr hv q.1 q.2 (hQ.after x₁ y₁ z₁)
theorem ev_cmp {a : Expr} {a' : RE} {ops ops' : List CmpOp} {es : List Expr} {rs : List RE} {pos : Pos} (h : EvOk prog w K G U p loose mg mb n a a') (h' : ChOk prog w K G U p loose mg mb n es rs) :
    EvOk prog w K G U p loose mg mb n (.Compare a ops es pos) (.cmp a' ops' rs) := by
  intro A fenv env ns h₀ L mF mL led fr H loc s E Qr Q hm N hw hQ
  simp only [mtE_cmp, Bool.and_eq_true] at hm
  rw [wpE_cmp] at hw
  obtain ⟨⟨⟨⟨ho, _⟩, _⟩, ha⟩, hes⟩ := hm
  have ho : ops = ops' := eq_of_beq ho
  subst ho
  show wpAny (model prog w) A (eval a env >>= fun v => compareChain pos v ops (markedEach ops es (evalEach es env))) Q E s
  rw [marked_plain ops _ hes]
  refine wpAny_bind (h ha N hw ?_)
  intro v u led₁ fr₁ H₁ s₁ q hv rr x₁ y₁ z₁
  exact h' hes (N.next rr x₁ y₁) hv q (hQ.after x₁ y₁ z₁)
theorem ev_sub {o i : Expr} {o' i' : RE} {pos : Pos} (h1 : EvOk prog w K G U p loose mg mb n o o') (h2 : EvOk prog w K G U p loose mg mb n i i') : EvOk prog w K G U p loose mg mb n (.Subscript o i pos) (.sub o' i') := by
  intro A fenv env ns h₀ L mF mL led fr H loc s E Qr Q hm N hw hQ
  simp only [mtE_sub, Bool.and_eq_true] at hm
  rw [wpE_sub] at hw
  refine Subscript_ (h1 hm.1 N hw ?_)
  intro x ux led₁ fr₁ H₁ s₁ q hx rr x₁ y₁ z₁
  refine h2 hm.2 (N.next rr x₁ y₁) q ?_
  intro y uy led₂ fr₂ H₂ s₂ q' hy rr' x₂ y₂ z₂
  try dsimp only at q'
  split at q'
  · rename_i v hv
    exact sub_ok N.a rr' (hx.mono x₂ y₂) hy (sub_plain hm.2 _ _) hv q' (hQ.after (x₁.trans x₂) (y₁.trans y₂) (z₁.trans z₂))
  · exact q'.elim
theorem ev_call {id : Str} {np pos : Pos} {args : List Expr} {f' : RE} {rs : List RE} (O : ProgOk K G) (hU : UOk prog w K p loose mg mb U n) (h1 : EvOk prog w K G U p loose mg mb n (.Name id np) f') (h2 : EvsOk prog w K G U p loose mg mb n args rs) :
    EvOk prog w K G U p loose mg mb n (.Call (.Name id np) args [] pos) (.call f' rs) := by
  intro A fenv env ns h₀ L mF mL led fr H loc s E Qr Q hm N hw hQ
  have hm' : mtE ns (.Name id np) f' = true ∧ mtEs ns args rs = true := by
    simpa only [mtE_call, Bool.and_eq_true] using hm
  rw [wpE_call] at hw
  rw [arm_eval_Call_Name']
  refine wpAny_bind (h1 hm'.1 N hw ?_)
  intro f fv led₁ fr₁ H₁ s₁ q hf rr x₁ y₁ z₁
  refine callWith_R (QL := fun _ _ => True) hm'.2 (keeper_ok O hf q.1) ?_
  refine h2 hm'.2 (N.next rr x₁ y₁) q.2 ?_
  intro vs us led₂ fr₂ H₂ s₂ q' hv rr' x₂ y₂ z₂
  exact ⟨N.a.in rr', call_ok O hU N.a rr' (hf.mono x₂ y₂) hv q' (hQ.after (x₁.trans x₂) (y₁.trans y₂) (z₁.trans z₂))⟩

theorem ts_not {x : Expr} {a : RE} {pos : Pos} (h1 : TsOk prog w K G U p loose mg mb n x a) : TsOk prog w K G U p loose mg mb n (.UnaryOp .Not x pos) (.not a) := by
  intro A fenv env ns h₀ L mF mL led fr H loc s E Qr Q hm N hw hQ
  rw [mtE_not] at hm
  rw [wpT_not] at hw
  refine isTrue_not (h1 hm N hw ?_)
  intro b led₁ fr₁ H₁ s₁ q rr x₁ y₁ z₁
  exact hQ _ led₁ fr₁ H₁ s₁ q rr x₁ y₁ z₁
theorem ts_bool {es : List Expr} {rs : List RE} {op : BoolOp} {b : Bool} {pos : Pos} (h : AllOk prog w K G U p loose mg mb n es rs) : TsOk prog w K G U p loose mg mb n (.BoolOp op es pos) (.boolop b rs) := by
  intro A fenv env ns h₀ L mF mL led fr H loc s E Qr Q hm N hw hQ
  simp only [mtE_boolop, Bool.and_eq_true] at hm
  rw [wpT_boolop] at hw
  rw [arm_isTrue_BoolOp]
  have hb : (op == .And) = b := eq_of_beq hm.1
  rw [← hb] at hw
  exact h hm.2 N hw hQ
theorem ts_cmp {a : Expr} {a' : RE} {ops ops' : List CmpOp} {es : List Expr} {rs : List RE} {pos : Pos} (h : EvOk prog w K G U p loose mg mb n a a') (h' : ChTOk prog w K G U p loose mg mb n es rs) :
    TsOk prog w K G U p loose mg mb n (.Compare a ops es pos) (.cmp a' ops' rs) := by
  intro A fenv env ns h₀ L mF mL led fr H loc s E Qr Q hm N hw hQ
  simp only [mtE_cmp, Bool.and_eq_true] at hm
  rw [wpT_cmp] at hw
  obtain ⟨⟨⟨⟨ho, _⟩, _⟩, ha⟩, hes⟩ := hm
  have ho : ops = ops' := eq_of_beq ho
  subst ho
  rw [arm_isTrue_Compare, marked_plain ops _ hes]
  refine wpAny_bind (h ha N hw ?_)
  intro v u led₁ fr₁ H₁ s₁ q hv rr x₁ y₁ z₁
  exact h' hes (N.next rr x₁ y₁) hv q (hQ.after x₁ y₁ z₁)
theorem ts_plain {e : Expr} {r : RE} (h : EvOk prog w K G U p loose mg mb n e r) (hr : ∀ whole loc H Q, wpT G U r whole loc H Q = whole loc H fun v H₁ => match truthR H₁ v with | some b => Q b H₁ | none => False)
    (he : ∀ env whole, isTrue e env whole = (do let v ← whole; standAt e.pos; holding [v] (truthy v))) : TsOk prog w K G U p loose mg mb n e r := by
  intro A fenv env ns h₀ L mF mL led fr H loc s E Qr Q hm N hw hQ
  rw [hr] at hw
  rw [he]
  refine wpAny_bind (h hm N hw ?_)
  intro v u led₁ fr₁ H₁ s₁ q hv rr x₁ y₁ z₁
  refine wpAny_bind (wpAny_standAt (wpAny_holding ?_))
  try dsimp only at q
  split at q
  · rename_i b hb
    exact truth_ok N.a rr hv hb fun t => hQ _ led₁ fr₁ H₁ _ q (rr.toks t) x₁ y₁ (z₁.with s₁.heap t)
  · exact q.elim
end
end Mine

namespace Mine
open PySem PySem.W PySem.Calls PyProof.Rows PySem.SeqAt

theorem chars_inj : ∀ (l l' : List Char), l.map Char.toNat = l'.map Char.toNat → l = l'
  | [], [], _ => rfl
  | [], _ :: _, h => by simp at h
  | _ :: _, [], h => by simp at h
  | a :: l, b :: l', h => by
    simp only [List.map_cons, List.cons.injEq] at h
    have : a = b := Char.ext (UInt32.toNat_inj.mp h.1)
    rw [this, chars_inj l l' h.2]
theorem ofString_inj {a b : String} (h : Str.ofString a = Str.ofString b) : a = b := by
  rw [Str.ofString_eq_toList, Str.ofString_eq_toList] at h
  have h1 : (a.toList.map Char.toNat) = (b.toList.map Char.toNat) := by
    have := congrArg Str.cps h
    simpa using this
  exact String.toList_injective (chars_inj _ _ h1)
theorem attrBase {ns : Ns} {o : Expr} {o' : RE} {x : Str} {env : Env} {whole : Sem Value} (h : mtE ns o o' = true) (hc : noC o' = true) : attributeBase o x env whole = whole := by
  cases mt_of h <;> first | rfl | exact absurd hc Bool.false_ne_true

section
variable {P : Params} {K : Frag} {h₀ : Heap} {L : Addr} {mF : Str → Option Value} {led : Led} {fr : Frz} {H : RH} {s : Shared}

theorem upd_mid {d : Addr} {o o' : Obj} : ∀ {l₁ l₂ : List (Addr × Obj)}, (∀ p ∈ l₁, p.1 ≠ d) → (∀ p ∈ l₂, p.1 ≠ d) → Upd d o o' (l₁ ++ (d, o) :: l₂) (l₁ ++ (d, o') :: l₂)
  | [], _, _, h => .head h
  | p :: l₁, _, h, h' => .tail (h p (.head _)) (upd_mid (fun q hq => h q (.tail _ hq)) h')
theorem led_split {i : Nat} {b : List (Addr × Obj)} (h : led[i]? = some b) : ∃ l₁ l₂, led = l₁ ++ b :: l₂ ∧ l₁.length = i ∧ ∀ b', led.set i b' = l₁ ++ b' :: l₂ := by
  induction led generalizing i with
  | nil => simp at h
  | cons c led ih =>
    cases i with
    | zero => simp at h; subst h; exact ⟨[], led, rfl, rfl, fun b' => rfl⟩
    | succ i =>
      simp at h
      obtain ⟨l₁, l₂, e, hl, hs⟩ := ih h
      exact ⟨c :: l₁, l₂, by rw [e]; rfl, by simp [hl], fun b' => by rw [List.set_cons_succ, hs]; rfl⟩

/-- an object is changed -/
theorem Rel.setOb {i : Nat} {pre post : List (Addr × Obj)} {d : Addr} {o o' : Obj} (r : Rel P K h₀ L mF led fr H s) (hb : led[i]? = some (pre ++ (d, o) :: post)) :
    Upd d o o' (led.flatten ++ fr) ((led.set i (pre ++ (d, o') :: post)).flatten ++ fr) ∧ Ext led (led.set i (pre ++ (d, o') :: post)) ∧ ((led.set i (pre ++ (d, o') :: post))[i]? = some (pre ++ (d, o') :: post)) ∧
      ∀ (ro' : RO) (s' : Shared), Fr h₀ L s'.heap mF → News h₀ L s'.heap ((led.set i (pre ++ (d, o') :: post)).flatten ++ fr) → ORel P K (led.set i (pre ++ (d, o') :: post)) fr ro' (pre ++ (d, o') :: post) →
        Rel P K h₀ L mF (led.set i (pre ++ (d, o') :: post)) fr (H.set i ro') s' := by
  obtain ⟨l₁, l₂, e, hl, hs⟩ := led_split hb
  have hx : Ext led (led.set i (pre ++ (d, o') :: post)) := fun j a ha => by
    unfold adr at ha ⊢
    by_cases hj : j = i
    · subst hj
      rw [hb] at ha
      have hlt : j < led.length := by
        by_cases h : j < led.length
        · exact h
        · rw [List.getElem?_eq_none (by omega)] at hb; cases hb
      rw [List.getElem?_set_self hlt]
      cases pre with
      | nil => exact ha
      | cons q pre => exact ha
    · rw [List.getElem?_set_ne (fun h => hj h.symm)]; exact ha
  have hD := r.D
  have hmap : ((led.set i (pre ++ (d, o') :: post)).flatten).map (·.1) = led.flatten.map (·.1) := by
    rw [hs, e]; simp
  have ne1 : ∀ p ∈ l₁.flatten ++ pre, p.1 ≠ d := fun p hp q => by
    rw [e] at hD
    simp only [List.flatten_append, List.flatten_cons, List.map_append, List.map_cons, List.append_assoc] at hD
    rw [← List.append_assoc, List.nodup_append] at hD
    refine hD.2.2 p.1 ?_ d ?_ q
    · rw [← List.map_append]; exact List.mem_map_of_mem hp
    · simp
  have ne2 : ∀ p ∈ post ++ (l₂.flatten ++ fr), p.1 ≠ d := fun p hp q => by
    rcases List.mem_append.mp hp with h | h
    · rw [e] at hD
      simp only [List.flatten_append, List.flatten_cons, List.map_append, List.map_cons, List.append_assoc] at hD
      have h2 := (List.nodup_append.mp (List.nodup_append.mp hD).2.1).2.1
      rw [List.cons_append, List.nodup_cons] at h2
      exact h2.1 (List.mem_append.mpr (.inl (q ▸ List.mem_map_of_mem h)))
    · rcases List.mem_append.mp h with h | h
      · rw [e] at hD
        simp only [List.flatten_append, List.flatten_cons, List.map_append, List.map_cons, List.append_assoc] at hD
        have h2 := (List.nodup_append.mp (List.nodup_append.mp hD).2.1).2.1
        rw [List.cons_append, List.nodup_cons] at h2
        exact h2.1 (List.mem_append.mpr (.inr (q ▸ List.mem_map_of_mem h)))
      · refine r.X p h ?_
        rw [q, e]; simp
  refine ⟨?_, hx, ?_, ?_⟩
  · have u := upd_mid (d := d) (o := o) (o' := o') ne1 ne2
    have e1 : led.flatten ++ fr = (l₁.flatten ++ pre) ++ (d, o) :: (post ++ (l₂.flatten ++ fr)) := by rw [e]; simp
    have e2 : (led.set i (pre ++ (d, o') :: post)).flatten ++ fr = (l₁.flatten ++ pre) ++ (d, o') :: (post ++ (l₂.flatten ++ fr)) := by rw [hs]; simp
    rw [e1, e2]; exact u
  · have hlt : i < led.length := by
      by_cases h : i < led.length
      · exact h
      · rw [List.getElem?_eq_none (by omega)] at hb; cases hb
    rw [List.getElem?_set_self hlt]
  · intro ro' s' F' N' hr
    have hlt : i < led.length := by
      by_cases h : i < led.length
      · exact h
      · rw [List.getElem?_eq_none (by omega)] at hb; cases hb
    refine ⟨r.Z, F', N', by rw [hmap]; exact r.D, fun p hp => by rw [hmap]; exact r.X p hp, by simp [r.R.1], fun j x ej => ?_⟩
    by_cases hj : j = i
    · subst hj
      rw [List.getElem?_set_self (by rw [← r.R.1]; exact hlt)] at ej
      cases ej
      exact ⟨_, by rw [List.getElem?_set_self hlt], hr⟩
    · rw [List.getElem?_set_ne (fun h => hj h.symm)] at ej
      obtain ⟨b, hb', x'⟩ := r.R.2 j x ej
      exact ⟨b, by rw [List.getElem?_set_ne (fun h => hj h.symm)]; exact hb', x'.mono hx (Sub.refl _)⟩

theorem FsRel.length {fs : List (String × RV)} {es : List DictEntry} (h : FsRel P K led fr fs es) : fs.length = es.length := by
  induction h with
  | nil => rfl
  | cons _ _ ih => simp [ih]
theorem FsRel.noRef {fs : List (String × RV)} {es : List DictEntry} (h : FsRel P K led fr fs es) : es.any (·.refKey) = false := by
  induction h with
  | nil => rfl
  | cons _ _ ih => rw [List.any_cons, ih]; rfl
theorem isStr_name (x y : String) (t : Tok) : (Value.str (Str.ofString x) t).isStr (Str.ofString y) = decide (x = y) := by
  show (Str.ofString x == Str.ofString y) = _
  by_cases h : x = y
  · subst h; simp
  · have : Str.ofString x ≠ Str.ofString y := fun e => h (ofString_inj e)
    rw [decide_eq_false h]
    exact beq_false_of_ne this
theorem FsRel.get {fs : List (String × RV)} {es : List DictEntry} (h : FsRel P K led fr fs es) (x : String) :
    (∀ v, fs.lookup x = some v → ∃ u, getL (Str.ofString x) es = some (some u) ∧ VRel K led fr v u) ∧ (fs.lookup x = none → getL (Str.ofString x) es = some none) := by
  have hn := h.noRef
  unfold getL
  induction h with
  | nil => exact ⟨fun v e => (by cases e), fun _ => rfl⟩
  | cons hv r ih =>
    rename_i y u t v fs es
    rw [List.any_cons, Bool.or_eq_false_iff] at hn
    rw [List.lookup_cons, List.find?_cons]
    show (∀ v', (match x == y with | true => some u | false => List.lookup x fs) = some v' → _) ∧ _
    have e : (Value.str (Str.ofString y) t).isStr (Str.ofString x) = decide (y = x) := isStr_name y x t
    rw [e]
    by_cases h : x = y
    · subst h
      simp only [beq_self_eq_true, decide_true]
      exact ⟨fun v' e => (by cases e; exact ⟨_, rfl, hv⟩), fun e => (by cases e)⟩
    · have h1 : (x == y) = false := by simp [h]
      have h2 : decide (y = x) = false := decide_eq_false fun e => h e.symm
      rw [h1, h2]
      have := ih hn.2
      rw [List.any_cons, hn.1, Bool.false_or]
      exact this
theorem FsRel.put {fs : List (String × RV)} {es : List DictEntry} (h : FsRel P K led fr fs es) {x : String} {v : RV} {u : Value} (hv : VRel K led fr v u) (t : Tok) :
    FsRel P K led fr (setL x v fs) (putL (Str.ofString x) (PyData.keyHash P (Str.ofString x)) (.str (Str.ofString x) t) u es) := by
  induction h with
  | nil => exact .cons hv .nil
  | cons hv' r ih =>
    rename_i y u' t' v' fs es
    unfold setL putL
    have e : (Value.str (Str.ofString y) t').isStr (Str.ofString x) = decide (y = x) := isStr_name y x t'
    show FsRel P K led fr _ (if (Value.str (Str.ofString y) t').isStr (Str.ofString x) = true then _ else _)
    rw [e]
    by_cases h : y = x
    · subst h
      simp only [if_true, decide_true]
      exact .cons hv r
    · rw [if_neg h, if_neg (by simp [h])]
      exact .cons hv' ih
theorem putL_len (nm : Str) (hs : Int) (k v : Value) : ∀ es : List DictEntry, (putL nm hs k v es).length ≤ es.length + 1
  | [] => Nat.le_refl _
  | e :: r => by
    unfold putL
    split
    · simp
    · simp; exact putL_len nm hs k v r
end

section
variable {prog : Program} {w : World} {K : Frag} {G : RProg} {U : UTy} {p : Program} {loose : List Str} {mg mb : Str → Option Value} {A : Around} {fenv env : Env} {ns : Ns} {h₀ : Heap} {L : Addr} {n : Nat} {mF mL : Str → Option Value}
  {led led' : Led} {fr fr' : Frz} {H H' : RH} {loc : Loc} {s s' : Shared} {E : Value → Shared → Prop} {P : Params} {Qr : PV} {Q : Value → Shared → Prop}

theorem Rel.inst_at (r : Rel P K h₀ L mF led fr H s) {i : Nat} {c : String} {fs : List (String × RV)} {x : Addr} (e : H[i]? = some (.inst c fs)) (ha : adr led i = some x) :
    ∃ C d ds k, nsIn K mainGlobals (Str.ofString c) = some (some (.ref C)) ∧ FsRel P K led fr fs ds ∧ led[i]? = some [(x, instObj C d), (d, dctO ds k)] ∧ InstAt s.heap x (instObj C d) C (some (dictOf ds k)) := by
  obtain ⟨b, hb, y⟩ := r.R.2 i _ e
  cases y with
  | inst hc hf =>
    rename_i C x' d ds k
    unfold adr at ha
    rw [hb] at ha
    have ha : x' = x := Option.some.inj ha
    subst ha
    have m1 : (x', instObj C d) ∈ led.flatten := mem_flat hb (.head _)
    have m2 : (d, dctO ds k) ∈ led.flatten := mem_flat hb (.tail _ (.head _))
    exact ⟨C, d, ds, k, hc, hf, hb, ⟨r.at (List.mem_append.mpr (.inl m1)), rfl, rfl, r.at (List.mem_append.mpr (.inl m2))⟩⟩
theorem VRel.handed {v : RV} {u : Value} (h : VRel K led fr v u) (hb : ∀ x, v ≠ .bi x) : handedIn u = true := by
  cases h <;> first | rfl | exact absurd rfl (hb _)

theorem attr_ok {o v : RV} {ou : Value} {x : String} {expr : Bool} (O : ProgOk K G) (a : Act prog K p loose mg mb A fenv h₀ L n) (r : Rel w.params K h₀ L mF led fr H s) (ho : VRel K led fr o ou)
    (hw : fieldR G H o x = some v) (hq : Qr v H) (hQ : EPost w.params K h₀ L mF led fr s Qr Q) : wpAny (model prog w) A (getAttr ou (Str.ofString x) expr) Q E s := by
  unfold fieldR at hw
  split at hw
  · split at hw
    · rename_i i c fs hi
      split at hw
      · rename_i hat
        have hl : fs.lookup x = some v ∧ ∀ y, v ≠ .bi y := by
          split at hw
          · cases hw
          · rename_i hne
            exact ⟨hw, fun y e => hne y (by rw [hw, e])⟩
        obtain ⟨_, rfl, ha⟩ := ho.ref_inv
        · obtain ⟨C, d, ds, k, hc, hf, hb, I⟩ := r.inst_at hi ha
          unfold attrOk at hat
          split at hat
          · rename_i kl hk
            obtain ⟨C', hC', _, k2, _, ⟨k4, k5, k6, k7⟩, _⟩ := O.cl c kl hk
            rw [hc] at hC'
            cases hC'
            obtain ⟨attr, a1, a2, a3⟩ := k7 x (by simpa using hat)
            obtain ⟨u, g1, g2⟩ := (hf.get x).1 v hl.1
            exact get_own r.F a.X I k4 k2 a1 a2 g1 (g2.handed hl.2) (hQ.same r hq g2 _)
          · cases hat
      · cases hw
    · cases hw
  · cases hw

theorem setAttr_ok {o v : RV} {ou u : Value} {x : String} {H' : RH} {Q : Unit → Shared → Prop} (O : ProgOk K G) (a : Act prog K p loose mg mb A fenv h₀ L n) (r : Rel w.params K h₀ L mF led fr H s) (ho : VRel K led fr o ou) (hv : VRel K led fr v u)
    (hw : setField G H o x v = some H') (hQ : ∀ led' s', Rel w.params K h₀ L mF led' fr H' s' → Ext led led' → Sm s s' → Q () s') : wpAny (model prog w) A (setAttr ou (Str.ofString x) u) Q E s := by
  unfold setField at hw
  split at hw
  · split at hw
    · rename_i i c fs hi
      split at hw
      · rename_i hat
        simp only [Bool.and_eq_true, decide_eq_true_eq] at hat
        obtain ⟨hat, hlen⟩ := hat
        cases hw
        obtain ⟨xa, rfl, ha⟩ := ho.ref_inv
        · obtain ⟨C, d, ds, k, hc, hf, hb, I⟩ := r.inst_at hi ha
          unfold attrOk at hat
          split at hat
          · rename_i kl hk
            obtain ⟨C', hC', _, k2, _, ⟨k4, k5, k6, k7⟩, _⟩ := O.cl c kl hk
            rw [hc] at hC'
            cases hC'
            obtain ⟨attr, a1, a2, a3⟩ := k7 x (by simpa using hat)
            have hl : (getL (Str.ofString x) ds).isSome = true := by
              cases q : fs.lookup x with
              | none => rw [(hf.get x).2 q]; rfl
              | some v' => obtain ⟨u', g, _⟩ := (hf.get x).1 v' q; rw [g]; rfl
            obtain ⟨up, hx, hat', hr⟩ := r.setOb (pre := [(xa, instObj C d)]) (post := []) (d := d) (o := dctO ds k)
              (o' := dctO (putL (Str.ofString x) (PyData.keyHash w.params (Str.ofString x)) (.str (Str.ofString x) (s.toks + 1)) u ds) (putN (Str.ofString x) ds k)) hb
            refine set_dict r.F a.X r.N I rfl k5 k6 a3 k2 hl rfl up (Nat.le_trans (putL_len _ _ _ _ _) (by rw [← hf.length]; omega)) fun h' F' N' => ?_
            refine hQ _ _ (hr (.inst c (setL x v fs)) _ F' N' ?_) hx ((Sm.refl s).with h' _)
            exact .inst hc ((hf.mono hx (Sub.refl _)).put (hv.mono hx (Sub.refl _)) _)
          · cases hat
      · cases hw
    · cases hw
  · cases hw

theorem ev_attr {o : Expr} {x : Str} {pos : Pos} {o' : RE} {x' : String} (O : ProgOk K G) (h : EvOk prog w K G U p loose mg mb n o o') : EvOk prog w K G U p loose mg mb n (.Attribute o x pos) (.attr o' x') := by
  intro A fenv env ns h₀ L mF mL led fr H loc s E Qr Q hm N hw hQ
  simp only [mtE_attr, Bool.and_eq_true] at hm
  rw [wpE_attr] at hw
  obtain ⟨⟨h0, h1⟩, h2⟩ := hm
  have e := eq_of_beq h1
  subst e
  rw [arm_eval_Attribute, attrBase h2 h0]
  refine wpAny_bind (h h2 N hw ?_)
  intro v u led₁ fr₁ H₁ s₁ q hv r₁ x₁ y₁ z₁
  refine wpAny_bind (wpAny_standAt (wpAny_bind (wpAny_holding ?_)))
  try dsimp only at q
  split at q
  · rename_i v' hv'
    refine attr_ok (Q := fun r s₂ => wpAny (model prog w) A (letTemporaryGo o u r >>= fun _ => pure r) Q E s₂) O N.a r₁ hv hv' q ?_
    intro v₂ u₂ led₂ fr₂ H₂ s₂ q₂ hv₂ r₂ x₂ y₂ z₂
    exact wpAny_bind (wpAny_letTemporaryGo (wpAny_pure (hQ v₂ u₂ led₂ fr₂ H₂ s₂ q₂ hv₂ r₂ (x₁.trans x₂) (y₁.trans y₂) (z₁.trans z₂))))
  · exact q.elim
end
end Mine

namespace Mine
open PySem PySem.W PySem.Calls PyProof.Rows PySem.SeqAt

/-! dicts keyed by texts: from the library's picture back to ours -/
inductive KvRel (K : Frag) (led : Led) (fr : Frz) : List (RV × RV) → List (Str × Value) → Prop where
  | nil : KvRel K led fr [] []
  | cons {x : Str} {u : RV} {v : Value} {es : List (RV × RV)} {kvs : List (Str × Value)} : VRel K led fr u v → KvRel K led fr es kvs → KvRel K led fr ((.str x, u) :: es) ((x, v) :: kvs)

section
variable {prog : Program} {w : World} {P : Params} {K : Frag} {h₀ : Heap} {L : Addr} {mF : Str → Option Value} {led led' : Led} {fr fr' : Frz} {H : RH} {s : Shared}

theorem DsRel.kv {es : List (RV × RV)} {ds : List DictEntry} (h : DsRel P K led fr es ds) : KvRel K led fr es (kvsOf ds) := by
  induction h with
  | nil => exact .nil
  | cons x _ ih => exact .cons x ih
theorem KvRel.mono {es : List (RV × RV)} {kvs : List (Str × Value)} (e : Ext led led') (h : Sub fr fr') (r : KvRel K led fr es kvs) : KvRel K led' fr' es kvs := by
  induction r with
  | nil => exact .nil
  | cons x _ ih => exact .cons (x.mono e h) ih
theorem KvRel.length {es : List (RV × RV)} {kvs : List (Str × Value)} (r : KvRel K led fr es kvs) : es.length = kvs.length := by
  induction r with
  | nil => rfl
  | cons x _ ih => simp [ih]
theorem ds_of_pairs {ds : List DictEntry} {es : List (RV × RV)} {kvs : List (Str × Value)} (hp : Pairs (PySem.strKind prog w) ds kvs) (hk : ∀ e ∈ ds, ∃ k, (PySem.strKind prog w).is k e.key = true ∧ e.hash = (PySem.strKind prog w).hash k)
    (r : KvRel K led fr es kvs) : DsRel w.params K led fr es ds ∧ ds.map (fun e => strOf e.key) = kvs.map (·.1) := by
  induction hp generalizing es with
  | nil => cases r; exact ⟨.nil, rfl⟩
  | cons h1 h2 h3 ih =>
    rename_i e kv ds kvs
    cases r with
    | cons hv r =>
      rename_i x u v es
      obtain ⟨k, k1, k2⟩ := hk e (.head _)
      have ex : k = x := (PySem.strKind prog w).inj _ _ _ k1 h1
      subst ex
      obtain ⟨t, ht⟩ := Value.isStrOf_shape h1
      obtain ⟨i1, i2⟩ := ih (fun e he => hk e (.tail _ he)) r
      obtain ⟨eh, ek, ev⟩ := e
      simp only at ht h2 k2
      subst ht; subst h2; subst k2
      exact ⟨.cons hv i1, by rw [List.map_cons, i2]; rfl⟩
theorem ds_of_dict {h : Heap} {a : Addr} {es : List (RV × RV)} {kvs : List (Str × Value)} (hd : h.DictOf (PySem.strKind prog w) a kvs) (r : KvRel K led fr es kvs) :
    ∃ ds n, h.get? a = some (dctO ds n) ∧ DsRel w.params K led fr es ds ∧ (ds.map fun e => strOf e.key).Nodup := by
  obtain ⟨o, ea, ep, ho, ⟨c1, c2, c3⟩, hdt, hk, hp, hn⟩ := hd
  obtain ⟨d1, d2⟩ := ds_of_pairs hp (fun e he => hk e (by simpa using he)) r
  refine ⟨ea.toList, ep, ?_, d1, by rw [d2]; exact hn⟩
  rw [ho]
  obtain ⟨oc, od, odt, osl⟩ := o
  simp only at c1 c2 c3 hdt
  subst c1; subst c2; subst c3; subst hdt
  rfl

theorem KvRel.absent {es : List (RV × RV)} {kvs : List (Str × Value)} {x : Str} (r : KvRel K led fr es kvs) (u : Value) (h : x ∉ kvs.map (·.1)) : kvs.map (fun kv => if kv.1 = x then (kv.1, u) else kv) = kvs := by
  induction r with
  | nil => rfl
  | cons _ _ ih =>
    simp only [List.map_cons, List.mem_cons, not_or] at h ⊢
    rw [if_neg fun e => h.1 e.symm, ih h.2]
theorem KvRel.put {es : List (RV × RV)} {kvs : List (Str × Value)} {x : Str} {v : RV} {u : Value} (r : KvRel K led fr es kvs) (hv : VRel K led fr v u) (hn : (kvs.map (·.1)).Nodup) :
    KvRel K led fr (putD (.str x) v es) (stored kvs x u) := by
  have aux : (kvs.any (fun kv => decide (kv.1 = x)) = true → KvRel K led fr (putD (.str x) v es) (kvs.map fun kv => if kv.1 = x then (kv.1, u) else kv)) ∧
      (kvs.any (fun kv => decide (kv.1 = x)) = false → KvRel K led fr (putD (.str x) v es) (kvs ++ [(x, u)])) := by
    induction r with
    | nil => exact ⟨fun h => by simp at h, fun _ => .cons hv .nil⟩
    | cons hv' r' ih =>
      rename_i y u' v' es' kvs'
      simp only [List.map_cons, List.nodup_cons] at hn
      have ih := ih hn.2
      simp only [List.any_cons, List.map_cons, putD, keyEq_str]
      by_cases h : y = x
      · subst h
        simp only [beq_self_eq_true, if_true, decide_true, Bool.true_or]
        exact ⟨fun _ => .cons hv (by rw [r'.absent u hn.1]; exact r'), fun h => by cases h⟩
      · have h1 : (y == x) = false := by simpa using h
        simp only [h1, h, if_false, decide_false, Bool.false_or, Bool.false_eq_true]
        exact ⟨fun q => .cons hv' (ih.1 q), fun q => .cons hv' (ih.2 q)⟩
  unfold stored
  cases hq : kvs.any (fun kv => decide (kv.1 = x)) with
  | true => rw [if_pos rfl]; exact aux.1 hq
  | false => rw [if_neg (by decide)]; exact aux.2 hq

/-- an object is changed in place -/
theorem Rel.chg {i : Nat} {d : Addr} {o o' : Obj} {ro' : RO} {s' : Shared} (r : Rel P K h₀ L mF led fr H s) (hb : led[i]? = some [(d, o)]) (hs : Heap.SameBut d s.heap s'.heap) (ho : s'.heap.get? d = some o')
    (hr : ∀ led', Ext led led' → ORel P K led' fr ro' [(d, o')]) : ∃ led', Ext led led' ∧ Rel P K h₀ L mF led' fr (H.set i ro') s' := by
  obtain ⟨up, hx, hat, hR⟩ := r.setOb (pre := []) (post := []) (d := d) (o := o) (o' := o') hb
  have z := r.N (d, o) (List.mem_append.mpr (.inl (mem_flat hb (.head _))))
  obtain ⟨pre, post, e1, e2, a, b⟩ := up.split
  refine ⟨_, hx, hR ro' s' (r.F.change hs z.2.1 z.2.2) ?_ (hr _ hx)⟩
  have N := r.N
  rw [e1] at N
  rw [e2]
  exact news_set N a b hs ho
end

section
variable {prog : Program} {w : World} {K : Frag} {G : RProg} {U : UTy} {p : Program} {loose : List Str} {mg mb : Str → Option Value} {A : Around} {fenv env : Env} {ns : Ns} {h₀ : Heap} {L : Addr} {n : Nat} {mF mL : Str → Option Value}
  {led led' : Led} {fr fr' : Frz} {H H' : RH} {loc : Loc} {s s' : Shared} {E : Value → Shared → Prop} {P : Params} {Qr : PV} {Q : Value → Shared → Prop}

theorem setItem_ok {o k v : RV} {ou ku u : Value} {H' : RH} {Q : Unit → Shared → Prop} (a : Act prog K p loose mg mb A fenv h₀ L n) (r : Rel w.params K h₀ L mF led fr H s) (ho : VRel K led fr o ou) (hk : VRel K led fr k ku) (hv : VRel K led fr v u)
    (hw : setSub H o k v = some H') (hQ : ∀ led' s', Rel w.params K h₀ L mF led' fr H' s' → Ext led led' → Sm s s' → Q () s') : wpAny (model prog w) A (setItem ou ku u) Q E s := by
  unfold setSub at hw
  split at hw
  · split at hw
    · rename_i j es hj
      split at hw
      · rename_i hc
        simp only [Bool.and_eq_true, decide_eq_true_eq] at hc
        cases hw
        obtain ⟨da, rfl, ha⟩ := ho.ref_inv
        · obtain ⟨ds, m, R1, nd, hb, hm, g⟩ := r.dict_at hj ha
          obtain ⟨x, rfl⟩ := keyOk_of hc.1.1
          · obtain ⟨t, rfl⟩ := hk.str_inv
            · have D := dict_of (prog := prog) R1 nd g
              have hl : (kvsOf ds).length = es.length := by rw [R1.length]; simp [kvsOf]
              refine wpAny_setItem_pairs (strKind_is prog w x t) D (fun h' D' hs => ?_) (by rw [hl]; have := hc.2; unfold sizeLine; omega)
              have kv := R1.kv.put (x := x) hv (by rw [kvs_keys]; exact nd)
              obtain ⟨ds', m', g', R', nd'⟩ := ds_of_dict D' kv
              obtain ⟨led', hx, r'⟩ := r.chg (ro' := .dict (putD (.str x) v es)) (s' := { s with heap := h', toks := s.toks + 1 }) hb hs g' fun led' hx => .dict (R'.mono hx (Sub.refl _)) nd'
              exact hQ led' _ r' hx ((Sm.refl s).with h' _)
      · cases hw
    · cases hw
  · cases hw

theorem ev_dict0 {pos : Pos} : EvOk prog w K G U p loose mg mb n (.Dict [] [] pos) .dict0 := by
  intro A fenv env ns h₀ L mF mL led fr H loc s E Qr Q hm N hw hQ
  refine newDict_K N.r.F N.r.N N.a.T.nolimit fun d h' o F' N' lt lo hd _ _ _ => ?_
  have g : h'.get? d = some o := (N' _ (.head _)).1
  obtain ⟨ds, m, g', R', nd'⟩ := ds_of_dict (K := K) (led := led ++ [[(d, o)]]) (fr := fr) (es := []) (Heap.dictOf_iff.mpr ⟨o, g, hd⟩) .nil
  rw [g] at g'
  cases g'
  have rr : Rel w.params K h₀ L mF (led ++ [[(d, dctO ds m)]]) fr (H ++ [.dict []]) { s with heap := h' } := by
    refine N.r.addOb F' N' (fun hm => ?_) (.dict R' nd')
    obtain ⟨z, hz, e⟩ := List.mem_map.mp hm
    exact Nat.lt_irrefl _ (e ▸ lt z hz)
  refine hQ (.ref H.length) (.ref d) _ fr _ _ hw (.ref ?_) rr (adr_snoc _) (Sub.refl _) ((Sm.refl s).with h' s.toks)
  rw [← N.r.R.1]; exact adr_last _ _
end
end Mine

namespace Mine
open PySem PySem.W PySem.Calls PyProof.Rows PySem.SeqAt

section
variable {prog : Program} {w : World} {K : Frag} {G : RProg} {U : UTy} {p : Program} {loose : List Str} {mg mb : Str → Option Value} {A : Around} {fenv env : Env} {ns : Ns} {h₀ : Heap} {L : Addr} {n : Nat} {mF mL : Str → Option Value}
  {led led' : Led} {fr fr' : Frz} {H H' : RH} {loc : Loc} {s s' : Shared} {E : Value → Shared → Prop} {P : Params} {Qr : PV} {Q : Value → Shared → Prop}

theorem vs_strsA {l : List (Str × Tok)} : VsRel K led fr ((l.map (·.1)).map RV.str) (strValues l) := by
  induction l with
  | nil => exact .nil
  | cons x l ih => exact .cons (.str _ _) ih

theorem mb_ok {id : String} {o : RV} {ou : Value} {args : List RV} {vals : List Value} (a : Act prog K p loose mg mb A fenv h₀ L n) (r : Rel w.params K h₀ L mF led fr H s) (ho : VRel K led fr o ou) (hv : VsRel K led fr args vals) (hw : mbR id o args H Qr)
    (hQ : EPost w.params K h₀ L mF led fr s Qr Q) : wpAny (model prog w) A (call (.builtin id) (ou :: vals)) Q E s := by
  unfold mbR at hw
  split at hw
  · rename_i hid; subst hid
    split at hw
    · rename_i x
      obtain ⟨t, rfl⟩ := ho.str_inv
      rw [hv.nil_inv]
      refine splitN0 r.F r.N (fun l h' k e F' N' => ?_) (by have := hw.1; unfold sizeLine; omega)
      have rr : Rel w.params K h₀ L mF (led ++ [[(s.heap.objs.size, lstO (strValues l) 0)]]) fr (H ++ [.list ((Txt.words x).map .str)]) { s with heap := h', toks := k } := by
        refine r.addOb F' N' r.fresh (.list ?_)
        rw [← e]; exact vs_strsA
      refine hQ (.ref H.length) _ _ fr _ _ hw.2 (.ref ?_) rr (adr_snoc _) (Sub.refl _) ((Sm.refl s).with h' k)
      rw [← r.R.1]; exact adr_last _ _
    · exact hw.elim
  · exact hw.elim

theorem ev_meth {o : Expr} {x : Str} {ap pos : Pos} {args : List Expr} {o' : RE} {x' : String} {rs : List RE} (O : ProgOk K G) (hU : UOk prog w K p loose mg mb U n) (h : EvOk prog w K G U p loose mg mb n o o')
    (h' : EvsOk prog w K G U p loose mg mb n args rs) : EvOk prog w K G U p loose mg mb n (.Call (.Attribute o x ap) args [] pos) (.meth o' x' rs) := by
  intro A fenv env ns h₀ L mF mL led fr H loc s E Qr Q hm N hw hQ
  simp only [mtE_meth, Bool.and_eq_true, decide_eq_true_eq] at hm
  rw [wpE_meth] at hw
  obtain ⟨⟨⟨⟨⟨h0, h1⟩, h2⟩, h3⟩, h4⟩, h5⟩ := hm
  have ex := eq_of_beq h1
  subst ex
  rw [arm_eval_Call, attrBase h2 h0]
  refine wpAny_bind (h h2 N hw ?_)
  intro ov u led₁ fr₁ H₁ s₁ q hv r₁ x₁ y₁ z₁
  refine wpAny_bind (wpAny_standAt ?_)
  have few : methodCallForm (args.length + ([] : List Keyword).length) (backTo pos (starEach args env)) (backToKw pos (keywordEach [] env)) = true := by
    rw [starEach_plain h3, backTo_plain]
    unfold methodCallForm
    show ((args.map fun e => (false, eval e env)).all (!·.1) && true && decide (args.length + 0 + 0 < 30)) = true
    rw [Bool.and_true, Bool.and_eq_true]
    exact ⟨by rw [List.all_map]; simp, decide_eq_true (by omega)⟩
  unfold methodCall
  rw [few]
  have hp : methodCallPos true o env ap pos = pure pos := by
    unfold methodCallPos
    rw [h4]; rfl
  -- the callee
  have go : ∀ (fv : Value) (Q₂ : Value → Shared → Prop), (∀ h, K.In h → ∃ k, (k = Keeper.frame ∨ k = Keeper.machine ∨ k = Keeper.boundFrame) ∧ Looks (model prog w) h (keeperOf fv) k) →
      wpAny (model prog w) A (spliced (args.map fun e => (false, eval e env))) (fun vs s₂ => K.In s₂.heap ∧ wpAny (model prog w) A (call fv ([u] ++ vs)) Q₂ E s₂) E s₁ →
      wpAny (model prog w) A (methodCallPos true o env ap pos >>= fun callPos => callWith callPos fv [u] (backTo pos (starEach args env)) (backToKw pos (keywordEach [] env))) Q₂ E s₁ := fun fv Q₂ hk hh => by
    rw [hp]
    exact wpAny_bind (wpAny_pure (callWith_R (QL := fun _ _ => True) h3 hk hh))
  have NN := N.next r₁ x₁ y₁
  try dsimp only at q
  split at q
  · rename_i d hd
    -- a method of the text's own
    unfold methK at hd
    split at hd
    · rename_i i
      split at hd
      · rename_i c fs hi
        split at hd
        · rename_i d' hl hk
          cases hd
          obtain ⟨xa, rfl, ha⟩ := hv.ref_inv
          · obtain ⟨C, dx, ds, k, hc, hf, hb, I⟩ := r₁.inst_at hi ha
            cases hkl : G.clss.lookup c with
            | none => rw [hkl] at hk; cases hk
            | some kl =>
              rw [hkl] at hk
              obtain ⟨C', hC', _, _, _, ⟨k4, _⟩, k8⟩ := O.cl c kl hkl
              rw [hc] at hC'
              cases hC'
              obtain ⟨f, f1, f2, f3⟩ := k8 _ _ hk
              refine wpAny_bind (wpAny_holding (method_inst r₁.F N.a.X I k4 f1 f2 ((hf.get x').2 hl) ?_))
              refine go (.ref f) Q (keeps_K (keep_fn f3)) ?_
              refine h' h3 NN q ?_
              intro vs us led₂ fr₂ H₂ s₂ q₂ hvs r₂ x₂ y₂ z₂
              exact ⟨N.a.in r₂, wpAny_call (hU N.a.weak f3 (.cons (.ref (x₂ _ _ ha)) hvs) r₂ q₂ (hQ.after (x₁.trans x₂) (y₁.trans y₂) (z₁.trans z₂)))⟩
        · cases hd
      · cases hd
    · split at hd <;> cases hd
    · cases hd
  · rename_i id hd
    have fin : ∀ id', id' = id → (∀ Q₃ : Value × List Value → Shared → Prop, Q₃ (.builtin id', [u]) s₁ → ∀ pl, wpAny (model prog w) A (getMethod u (Str.ofString x') pl) Q₃ E s₁) →
        wpAny (model prog w) A (holding [u] (calleeOf true o env u (Str.ofString x')) >>= fun fx => methodCallPos true o env ap pos >>= fun callPos => callWith callPos fx.1 fx.2 (backTo pos (starEach args env)) (backToKw pos (keywordEach [] env))) Q E s₁ := fun id' e hg => by
      subst e
      refine wpAny_bind (wpAny_holding (hg _ ?_ _))
      refine go (.builtin id') Q (fun h X => ⟨.machine, .inr (.inl rfl), Looks.of_pure rfl⟩) ?_
      refine h' h3 NN q ?_
      intro vs us led₂ fr₂ H₂ s₂ q₂ hvs r₂ x₂ y₂ z₂
      exact ⟨N.a.in r₂, mb_ok N.a r₂ (hv.mono x₂ y₂) hvs q₂ (hQ.after (x₁.trans x₂) (y₁.trans y₂) (z₁.trans z₂))⟩
    unfold methK at hd
    split at hd
    · split at hd
      · split at hd <;> cases hd
      · cases hd
    · rename_i z
      split at hd
      · rename_i hx; subst hx
        refine fin "str.split" (by cases hd; rfl) fun Q₃ hq pl => ?_
        obtain ⟨t, rfl⟩ := hv.str_inv
        exact getMethod_builtin (typeIs_str _ _ _) PySem.F.plainAttrs_str PySem.F.slot_str_split PySem.F.type_str_split (fun a' e => by cases e) hq
      · cases hd
    · cases hd
  · exact q.elim
end
end Mine

namespace Mine
open PySem PySem.W PySem.Calls PyProof.Rows PySem.SeqAt

section
variable {K : Frag} {h₀ : Heap} {L : Addr} {mF : Str → Option Value} {led led' : Led} {fr fr' : Frz} {H H' : RH} {s s' : Shared} {P : Params}
/-- what stands still but for cells -/
def SubI (K : Frag) (fr fr' : Frz) : Prop := ∀ a (o : Obj), (∀ v, o.data ≠ .cell v) → ((o.cls = .type "tuple" ∨ o.cls = .type "range" ∨ o.cls = .type "set") ∧ ∀ es ep, o.data ≠ .dict es ep) → Imm K fr a o → Imm K fr' a o
theorem Sub.I (h : Sub fr fr') : SubI K fr fr' := fun _ _ _ _ i => i.mono h
theorem SubI.trans {a b c : Frz} (x : SubI K a b) (y : SubI K b c) : SubI K a c := fun p o h c i => y p o h c (x p o h c i)
mutual
theorem VRel.monoI (h : SubI K fr fr') : ∀ {u : RV} {v : Value}, VRel K led fr u v → VRel K led fr' u v
  | _, _, .none => .none
  | _, _, .bool b => .bool b
  | _, _, .int i t => .int i t
  | _, _, .str x t => .str x t
  | _, _, .tup i r => .tup (h _ _ (fun _ e => by cases e) ⟨.inl rfl, fun _ _ e => by cases e⟩ i) (VsRel.monoI h r)
  | _, _, .rng i => .rng (h _ _ (fun _ e => by cases e) ⟨.inr (.inl rfl), fun _ _ e => by cases e⟩ i)
  | _, _, .ref i => .ref i
  | _, _, .fn i => .fn i
  | _, _, .cls i => .cls i
  | _, _, .bi x => .bi x
  | _, _, .ty x => .ty x
  | _, _, .fdict a b c d e => .fdict a b c d e
  | _, _, .sset i c o => .sset (h _ _ (fun _ e => by obtain ⟨_, _, _, _, d, _⟩ := o; rw [d] at e; cases e) ⟨.inr (.inr c), fun _ _ e => by obtain ⟨_, _, _, _, d, _⟩ := o; rw [d] at e; cases e⟩ i) c o
  | _, _, .arg i c d r => .arg i c d (VsRel.monoI h r)
theorem VsRel.monoI (h : SubI K fr fr') : ∀ {u : List RV} {v : List Value}, VsRel K led fr u v → VsRel K led fr' u v
  | _, _, .nil => .nil
  | _, _, .cons x r => .cons (VRel.monoI h x) (VsRel.monoI h r)
end
theorem FsRel.monoI (h : SubI K fr fr') {u : List (String × RV)} {v : List DictEntry} (r : FsRel P K led fr u v) : FsRel P K led fr' u v := by
  induction r with
  | nil => exact .nil
  | cons x _ ih => exact .cons (x.monoI h) ih
theorem DsRel.monoI (h : SubI K fr fr') {u : List (RV × RV)} {v : List DictEntry} (r : DsRel P K led fr u v) : DsRel P K led fr' u v := by
  induction r with
  | nil => exact .nil
  | cons x _ ih => exact .cons (x.monoI h) ih
theorem ORel.monoI (h : SubI K fr fr') {o : RO} {b : List (Addr × Obj)} (r : ORel P K led fr o b) : ORel P K led fr' o b := by
  cases r with
  | list x => exact .list (x.monoI h)
  | dict x d => exact .dict (x.monoI h) d
  | inst i x => exact .inst i (x.monoI h)
theorem HRel.monoI (h : SubI K fr fr') {H : RH} (r : HRel P K led fr H) : HRel P K led fr' H :=
  ⟨r.1, fun i o e => let ⟨b, hb, x⟩ := r.2 i o e; ⟨b, hb, x.monoI h⟩⟩

/-- a thing that no value of ours is -/
def quiet (o : Obj) : Prop := ((o.cls ≠ .type "tuple" ∧ o.cls ≠ .type "range" ∧ o.cls ≠ .type "set") ∨ ∃ es ep, o.data = .dict es ep) ∧ ∀ v, o.data ≠ .cell v
theorem quiet.not {o : Obj} (hq : quiet o) (hc : (o.cls = .type "tuple" ∨ o.cls = .type "range" ∨ o.cls = .type "set") ∧ ∀ es ep, o.data ≠ .dict es ep) : False := by
  rcases hq.1 with h | ⟨es, ep, e⟩
  · rcases hc.1 with c | c | c
    · exact h.1 c
    · exact h.2.1 c
    · exact h.2.2 c
  · exact hc.2 es ep e

def without (I : Addr) (fo : Frz) : Frz := fo.filter fun q => q.1 != I
theorem without_mem {I : Addr} {q : Addr × Obj} : q ∈ without I fr ↔ q ∈ fr ∧ q.1 ≠ I := by
  unfold without; rw [List.mem_filter]; simp

theorem Rel.subI_without (r : Rel P K h₀ L mF led fr H s) {I : Addr} {o : Obj} (hI : (I, o) ∈ fr) (hq : quiet o) : SubI K fr (without I fr) := fun a x _ hc i => by
  rcases i with i | i
  · by_cases ha : a = I
    · subst ha
      have h1 := (r.N (a, x) (List.mem_append.mpr (.inr i))).1
      have h2 := (r.N (a, o) (List.mem_append.mpr (.inr hI))).1
      have e : x = o := Option.some.inj (h1.symm.trans h2)
      subst e
      exact (hq.not hc).elim
    · exact .inl (without_mem.mpr ⟨i, ha⟩)
  · exact .inr i

/-- such a thing is let go of, whatever becomes of it -/
theorem Rel.drop (r : Rel P K h₀ L mF led fr H s) {I : Addr} {o : Obj} (hI : (I, o) ∈ fr) (hq : quiet o)
    (hk : ∀ b x, b ≠ I → s.heap.get? b = some x → s'.heap.get? b = some x) : Rel P K h₀ L mF led (without I fr) H s' := by
  have zI := r.N (I, o) (List.mem_append.mpr (.inr hI))
  have nl : I ∉ led.flatten.map (·.1) := r.X (I, o) hI
  refine ⟨r.Z, ?_, ?_, r.D, fun q hq => r.X q (without_mem.mp hq).1, r.R.monoI (r.subI_without hI hq)⟩
  · obtain ⟨oL, es, ep, hL, r1⟩ := r.F.ns
    refine ⟨⟨oL, es, ep, hk L oL (fun e => zI.2.1 e.symm) hL, r1⟩, fun b x e => hk b x (fun q => ?_) (r.F.keep b x e), r.F.above⟩
    rw [q, zI.2.2] at e; cases e
  · intro q hq
    have old : q ∈ led.flatten ++ fr → q.1 ≠ I → s'.heap.get? q.1 = some q.2 ∧ q.1 ≠ L ∧ h₀.get? q.1 = none := fun hq hne => ⟨hk _ _ hne (r.N q hq).1, (r.N q hq).2⟩
    rcases List.mem_append.mp hq with h | h
    · exact old (List.mem_append.mpr (.inl h)) fun e => nl (e ▸ List.mem_map_of_mem h)
    · have := without_mem.mp h
      exact old (List.mem_append.mpr (.inr this.1)) this.2

/-- such a thing turns -/
theorem Rel.swap (r : Rel P K h₀ L mF led fr H s) {I : Addr} {o o' : Obj} (hI : (I, o) ∈ fr) (hq : quiet o)
    (hk : ∀ b x, b ≠ I → s.heap.get? b = some x → s'.heap.get? b = some x) (ho' : s'.heap.get? I = some o') :
    Rel P K h₀ L mF led ((I, o') :: without I fr) H s' ∧ SubI K fr ((I, o') :: without I fr) := by
  have zI := r.N (I, o) (List.mem_append.mpr (.inr hI))
  have nl : I ∉ led.flatten.map (·.1) := r.X (I, o) hI
  have d := r.drop hI hq hk
  have sub : Sub (without I fr) ((I, o') :: without I fr) := fun q h => .tail _ h
  refine ⟨⟨r.Z, d.F, ?_, r.D, ?_, d.R.mono sub⟩, (r.subI_without hI hq).trans sub.I⟩
  · intro q hq
    rcases List.mem_append.mp hq with h | h
    · exact d.N q (List.mem_append.mpr (.inl h))
    · rcases List.mem_cons.mp h with rfl | h
      · exact ⟨ho', zI.2⟩
      · exact d.N q (List.mem_append.mpr (.inr h))
  · intro q hq
    rcases List.mem_cons.mp hq with rfl | h
    · exact nl
    · exact d.X q h

/-- a list that was held becomes an object of its own -/
theorem Rel.adopt (r : Rel P K h₀ L mF led fr H s) {D : Addr} {vs : List RV} {ws : List Value} {k : Nat} (hD : (D, lstO ws k) ∈ fr) (hv : VsRel K led fr vs ws) :
    Rel P K h₀ L mF (led ++ [[(D, lstO ws k)]]) (without D fr) (H ++ [.list vs]) s ∧ Ext led (led ++ [[(D, lstO ws k)]]) ∧ adr (led ++ [[(D, lstO ws k)]]) H.length = some D := by
  have hq : quiet (lstO ws k) := ⟨.inl ⟨by simp, by simp, by simp⟩, fun v e => by cases e⟩
  have hI := r.subI_without hD hq
  have nl : D ∉ led.flatten.map (·.1) := r.X (D, lstO ws k) hD
  have hE : Ext led (led ++ [[(D, lstO ws k)]]) := adr_snoc _
  refine ⟨⟨r.Z, r.F, ?_, ?_, ?_, ⟨by simp [r.R.1], fun i x e => ?_⟩⟩, hE, ?_⟩
  · intro p hp
    simp only [List.flatten_append, List.mem_append, List.flatten_cons, List.flatten_nil, List.append_nil, List.mem_singleton] at hp
    rcases hp with (h | h) | h
    · exact r.N p (List.mem_append.mpr (.inl h))
    · subst h; exact r.N _ (List.mem_append.mpr (.inr hD))
    · exact r.N p (List.mem_append.mpr (.inr (without_mem.mp h).1))
  · simp only [List.flatten_append, List.flatten_cons, List.flatten_nil, List.append_nil, List.map_append, List.map_cons, List.map_nil]
    rw [List.nodup_append]
    refine ⟨r.D, by simp, ?_⟩
    intro x hx b hb e
    simp only [List.mem_singleton] at hb
    subst hb; subst e
    exact nl hx
  · intro p hp q
    have hp' := without_mem.mp hp
    simp only [List.flatten_append, List.flatten_cons, List.flatten_nil, List.append_nil, List.map_append, List.map_cons, List.map_nil, List.mem_append, List.mem_singleton] at q
    rcases q with q | q
    · exact r.X p hp'.1 q
    · exact hp'.2 q
  · by_cases hi : i < H.length
    · rw [List.getElem?_append_left hi] at e
      obtain ⟨b, hb, x'⟩ := r.R.2 i x e
      exact ⟨b, by rw [List.getElem?_append_left (by rw [r.R.1]; exact hi)]; exact hb, (x'.monoI hI).mono hE (Sub.refl _)⟩
    · have hi' : i = H.length := by
        have : i < (H ++ [RO.list vs]).length := by
          by_cases h : i < (H ++ [RO.list vs]).length
          · exact h
          · rw [List.getElem?_eq_none (by omega)] at e; cases e
        simp at this; omega
      subst hi'
      rw [List.getElem?_append_right (Nat.le_refl _), Nat.sub_self] at e
      cases e
      refine ⟨[(D, lstO ws k)], ?_, .list ((hv.monoI hI).mono hE (Sub.refl _))⟩
      rw [← r.R.1, List.getElem?_append_right (Nat.le_refl _), Nat.sub_self]; rfl
  · rw [← r.R.1]; exact adr_last _ _
end
theorem lookup_setL {α : Type} (x : String) (v : α) (y : String) : ∀ l : List (String × α), (setL x v l).lookup y = if y = x then some v else l.lookup y
  | [] => by
    simp only [setL, List.lookup_cons, List.lookup_nil]
    by_cases h : y = x
    · simp [h]
    · have : (y == x) = false := by simpa using h
      simp [h, this]
  | (z, u) :: r => by
    have ih := lookup_setL x v y r
    unfold setL
    by_cases hz : z = x
    · subst hz
      simp only [if_true, List.lookup_cons]
      by_cases h : y = z
      · simp [h]
      · have : (y == z) = false := by simpa using h
        simp [h, this]
    · simp only [hz, if_false, List.lookup_cons]
      by_cases h : y = z
      · have : ¬ y = x := fun e => hz (h ▸ e)
        simp [h]
        intro e; exact absurd e hz
      · have : (y == z) = false := by simpa using h
        simp only [this]
        exact ih

end Mine

namespace Mine
open PySem PySem.W PySem.Calls PyProof.Rows PySem.SeqAt

/-- where an iterator stands -/
inductive ItAt : RV → Value → Nat → Obj → Prop where
  | list {j : Nat} {a : Addr} {i : Nat} {o : Obj} : o.cls = .type "list_iterator" → o.data = .fields #[.ref a, .int i 0] → ItAt (.ref j) (.ref a) i o
  | rng {x y c : Int} {a : Addr} {i : Nat} : ItAt (.rng x y c) (.ref a) i { cls := .type "range_iterator", data := .fields #[rawInt (x + (i : Nat) * c), rawInt (((rngL x y c).length : Int) - (i : Nat)), rawInt c] }
theorem ItAt.quiet {r : RV} {v : Value} {i : Nat} {o : Obj} (h : ItAt r v i o) : quiet o := by
  cases h with
  | list h1 h2 => exact ⟨.inl ⟨by rw [h1]; simp, by rw [h1]; simp, by rw [h1]; simp⟩, fun v e => by rw [h2] at e; cases e⟩
  | rng => exact ⟨.inl ⟨by simp, by simp, by simp⟩, fun v e => by cases e⟩


/-- sources that are gone through by a place: lists, tuples, ranges -/
def placed (H : RH) : RV → Prop
  | .ref i => ∃ vs, H[i]? = some (.list vs)
  | _ => True
theorem placed_of {H : RH} {src : RV} (h : placedB H src = true) : placed H src := by
  unfold placedB at h
  split at h
  · split at h
    · rename_i vs e; exact ⟨vs, e⟩
    · cases h
  · trivial
  · cases h
theorem rng_len (x y : Int) : Builtin.Range.rangeSize x y 1 = ((rngL x y 1).length : Int) := by
  unfold Builtin.Range.rangeSize rngL
  have h1 : (1 : Int) > 0 := by decide
  have h2 : (0 : Int) < 1 := by decide
  rw [if_pos h1, if_pos h2, List.length_map, List.length_range]
  simp only [Int.ediv_one]
  split <;> omega
/-- what the source is stays -/
theorem src_same {H₁ H₃ : RH} {src : RV} {l : List RV} (hp : placedB H₁ src = true) (hl : itemsR H₁ src = some l) (hsrc : srcOf H₁ src H₃) : placed H₃ src ∧ itemsR H₃ src = some l := by
  cases src with
  | ref j =>
    have hsrc : H₃[j]? = H₁[j]? := hsrc
    refine ⟨?_, ?_⟩
    · obtain ⟨vs, e⟩ := placed_of hp; exact ⟨vs, by rw [hsrc]; exact e⟩
    · simp only [itemsR] at hl ⊢; rw [hsrc]; exact hl
  | _ => exact ⟨placed_of hp, hl⟩

section
variable {prog : Program} {w : World} {K : Frag} {A : Around} {h₀ : Heap} {L : Addr} {mF : Str → Option Value} {led : Led} {fr : Frz} {H : RH} {s : Shared} {E : Value → Shared → Prop} {P : Params}

theorem next_raw (X : K.In h₀) (r : Rel P K h₀ L mF led fr H s) {I : Addr} {o : Obj} {src : RV} {u : Value} {i : Nat} {l : List RV} {v : RV} {Q : Option Value → Shared → Prop}
    (gI : s.heap.get? I = some o) (hs : VRel K led fr src u) (hit : ItAt src u i o) (hp : placed H src) (hl : itemsR H src = some l) (hv : l[i]? = some v)
    (hQ : ∀ u' o' s', VRel K led fr v u' → ItAt src u (i + 1) o' → (∀ b x, b ≠ I → s.heap.get? b = some x → s'.heap.get? b = some x) → s'.heap.get? I = some o' → Sm s s' → Q (some u') s') :
    wpAny (model prog w) A (pyNext (.ref I)) Q E s := by
  cases hit with
  | list h1 h2 =>
    rename_i j a
    obtain ⟨_, e, ha⟩ := hs.ref_inv
    cases e
    · obtain ⟨vs, hj⟩ := hp
      simp only [itemsR, hj, Option.some.injEq] at hl
      subst hl
      obtain ⟨ws, k, R1, _, _, g⟩ := r.list_at hj ha
      obtain ⟨u', hu', hr⟩ := R1.get i v hv
      refine wpAny_pyNext_list_item ⟨o, gI, h1, h2⟩ (isList_of g) (by simpa using hu') fun h' hit' hsb => ?_
      obtain ⟨o', g', c1, c2⟩ := hit'
      exact hQ u' o' _ hr (.list c1 c2) (fun b x hb e => (hsb.2 b hb).trans e) g' ((Sm.refl s).with h' s.toks)
  | rng =>
    rename_i x y c a
    simp only [itemsR] at hl
    split at hl
    · rename_i hc
      simp only [Option.some.injEq] at hl
      subst hl
      have hlt : i < (rngL x y c).length := by
        by_cases h : i < (rngL x y c).length
        · exact h
        · rw [List.getElem?_eq_none (by omega)] at hv; cases hv
      have ev : v = .int (x + c * (i : Int)) := by
        unfold rngL at hv
        rw [if_pos hc, List.getElem?_map] at hv
        cases hr : (List.range ((y - x + c - 1) / c).toNat)[i]? with
        | none => rw [hr] at hv; cases hv
        | some k =>
          rw [hr] at hv
          have : k = i := by
            rw [List.getElem?_range] at hr
            · cases hr; rfl
            · unfold rngL at hlt; rw [if_pos hc] at hlt; simpa using hlt
          subst this
          cases hv; rfl
      subst ev
      refine wpAny_pyNext_range_item gI (by omega) fun h' hit' hsb => ?_
      have e1 : x + (i : Int) * c + c = x + ((i + 1 : Nat) : Int) * c := by push_cast; rw [Int.add_mul, Int.one_mul, Int.add_assoc]
      have e2 : ((rngL x y c).length : Int) - (i : Int) - 1 = ((rngL x y c).length : Int) - ((i + 1 : Nat) : Int) := by push_cast; omega
      rw [e1, e2] at hit'
      refine hQ _ _ _ ?_ .rng (fun b x hb e => (hsb.2 b hb).trans e) hit' ((Sm.refl s).with h' _)
      rw [show x + c * (i : Int) = x + (i : Int) * c from by rw [Int.mul_comm]]; exact .int _ _
    · cases hl

theorem end_raw (X : K.In h₀) (hh : A.handled = none) (r : Rel P K h₀ L mF led fr H s) {I : Addr} {o : Obj} {src : RV} {u : Value} {i : Nat} {l : List RV} {Q : Option Value → Shared → Prop}
    (gI : s.heap.get? I = some o) (hs : VRel K led fr src u) (hit : ItAt src u i o) (hp : placed H src) (hl : itemsR H src = some l) (hv : l.length = i)
    (hQ : ∀ s', (∀ b x, b ≠ I → s.heap.get? b = some x → s'.heap.get? b = some x) → Sm s s' → Q none s') :
    wpAny (model prog w) A (pyNext (.ref I)) Q E s := by
  have fin : ∀ h', Heap.ExtBut I s.heap h' → Q none { s with heap := h' } := fun h' he => hQ { s with heap := h' } (fun b x hb e => he b x hb e) ((Sm.refl s).with h' s.toks)
  cases hit with
  | list h1 h2 =>
    obtain ⟨_, e, ha⟩ := hs.ref_inv
    cases e
    · obtain ⟨vs, hj⟩ := hp
      simp only [itemsR, hj, Option.some.injEq] at hl
      subst hl
      obtain ⟨ws, k, R1, _, _, g⟩ := r.list_at hj ha
      exact wpAny_pyNext_list_end hh ⟨o, gI, h1, h2⟩ (isList_of g) (by simp; have := R1.length; omega) fin
  | rng =>
    simp only [itemsR] at hl
    split at hl
    · simp only [Option.some.injEq] at hl
      subst hl
      exact wpAny_pyNext_range_end hh gI (by omega) fin
    · cases hl

theorem iter_raw (X : K.In h₀) (r : Rel P K h₀ L mF led fr H s) {src : RV} {u : Value} {Q : Value → Shared → Prop} (hs : VRel K led fr src u) (hp : placedB H src = true)
    (hQ : ∀ o : Obj, o.isFreed = false → ItAt src u 0 o → Q (.ref s.heap.objs.size) { s with heap := s.heap.push o }) : wpAny (model prog w) A (pyIter u) Q E s := by
  have hpl := placed_of hp
  cases src with
  | ref j =>
    obtain ⟨_, rfl, ha⟩ := hs.ref_inv
    · obtain ⟨vs, hj⟩ := hpl
      obtain ⟨ws, k, R1, _, _, g⟩ := r.list_at hj ha
      exact wpAny_pyIter_list (isList_of g) (hQ _ rfl (.list rfl rfl))
  | rng x y c =>
    simp only [placedB, Bool.and_eq_true, beq_iff_eq] at hp
    obtain ⟨rfl, hsm⟩ := hp
    obtain ⟨ra, _, _, _, rfl, im⟩ := hs.rng_inv
    · refine wpAny_pyIter_range (r.imm X im) hsm (hQ _ rfl ?_)
      have := ItAt.rng (x := x) (y := y) (c := 1) (a := ra) (i := 0)
      rw [rng_len]
      simpa using this
  | _ => exact absurd hp Bool.false_ne_true

theorem foldless {ns : Ns} {e : Expr} {r : RE} {env : Env} (h : mtE ns e r = true) (x : Value) : foldedSetIterable e env x = pure x := by
  cases mt_of h <;> rfl
end
end Mine

namespace Mine
open PySem PySem.W PySem.Calls PyProof.Rows PySem.SeqAt

theorem lookup_relabel {env : Env} (x : Str) : ∀ (names : List (Str × NameKind)),
    (names.map fun (n, k) => if (k == NameKind.free && env.scope.kind == .function && env.kindOf n == some .cell) then (n, NameKind.cell) else (n, k)).lookup x
      = (names.lookup x).map fun k => if (k == NameKind.free && env.scope.kind == .function && env.kindOf x == some .cell) then NameKind.cell else k
  | [] => rfl
  | (n, k) :: r => by
    have ih := lookup_relabel (env := env) x r
    show List.lookup x ((if (k == NameKind.free && env.scope.kind == .function && env.kindOf n == some .cell) = true then (n, NameKind.cell) else (n, k)) :: _) = _
    cases hx : x == n with
    | true =>
      have e := eq_of_beq hx
      subst e
      by_cases hc : (k == NameKind.free && env.scope.kind == .function && env.kindOf x == some .cell) = true
      · rw [if_pos hc]; simp only [List.lookup_cons, hx, Option.map_some]; rw [if_pos hc]
      · rw [if_neg hc]; simp only [List.lookup_cons, hx, Option.map_some]; rw [if_neg hc]
    | false =>
      by_cases hc : (k == NameKind.free && env.scope.kind == .function && env.kindOf n == some .cell) = true
      · rw [if_pos hc]; simp only [List.lookup_cons, hx]; exact ih
      · rw [if_neg hc]; simp only [List.lookup_cons, hx]; exact ih

theorem clos_go {env : Env} : ∀ (names : List (Str × NameKind)) (cs : List (Str × Addr)), (∀ q ∈ names, q.2 = .free → ∃ c, env.cells.lookup q.1 = some c) → (∀ y c, cs.lookup y = some c → env.cells.lookup y = some c) →
    ∃ cl, (forIn names cs (fun (x : Str × NameKind) (r : List (Str × Addr)) => if (x.2 == NameKind.free) = true then cellOf env x.1 >>= fun c => pure (ForInStep.yield ((x.1, c) :: r)) else pure (ForInStep.yield r)) : Sem (List (Str × Addr))) = pure cl ∧
      (∀ y c, cl.lookup y = some c → env.cells.lookup y = some c) ∧ ∀ y, ((∃ q ∈ names, q.1 = y ∧ q.2 = .free) ∨ (cs.lookup y).isSome = true) → (cl.lookup y).isSome = true
  | [], cs, _, hcs => ⟨cs, rfl, hcs, fun y h => by
      rcases h with ⟨q, hq, _⟩ | h
      · cases hq
      · exact h⟩
  | (m, k) :: r, cs, hn, hcs => by
    rw [List.forIn_cons]
    cases hk : k == NameKind.free with
    | true =>
      have ek : k = .free := eq_of_beq hk
      obtain ⟨c, hc⟩ := hn (m, k) (.head _) ek
      have hcs' : ∀ y c', ((m, c) :: cs).lookup y = some c' → env.cells.lookup y = some c' := fun y c' h => by
        rw [List.lookup_cons] at h
        cases hy : y == m with
        | true => rw [hy] at h; rw [eq_of_beq hy]; simp only [Option.some.injEq] at h; rw [← h]; exact hc
        | false => rw [hy] at h; exact hcs y c' h
      obtain ⟨cl, h1, h2, h3⟩ := clos_go r ((m, c) :: cs) (fun q hq => hn q (.tail _ hq)) hcs'
      refine ⟨cl, ?_, h2, fun y h => h3 y ?_⟩
      · rw [← h1]
        have : cellOf env m = pure c := by unfold cellOf; rw [hc]
        simp only [hk, if_true, this, pure_bind]
      · rcases h with ⟨q, hq, e1, e2⟩ | h
        · rcases List.mem_cons.mp hq with rfl | hq
          · right; rw [List.lookup_cons, ← e1]; simp
          · exact .inl ⟨q, hq, e1, e2⟩
        · right
          rw [List.lookup_cons]
          cases hy : y == m with
          | true => rfl
          | false => exact h
    | false =>
      obtain ⟨cl, h1, h2, h3⟩ := clos_go r cs (fun q hq => hn q (.tail _ hq)) hcs
      refine ⟨cl, ?_, h2, fun y h => h3 y ?_⟩
      · rw [← h1]
        simp only [hk, Bool.false_eq_true, if_false, pure_bind]
      · rcases h with ⟨q, hq, e1, e2⟩ | h
        · rcases List.mem_cons.mp hq with rfl | hq
          · simp only at e2; subst e2; cases hk
          · exact .inl ⟨q, hq, e1, e2⟩
        · exact .inr h

theorem clos_ok {sc : Scope} {env : Env} (h : ∀ q ∈ sc.names, q.2 = .free → ∃ c, env.cells.lookup q.1 = some c) :
    ∃ cl, closureFor sc env = pure cl ∧ ∀ y, sc.names.lookup y = some .free → cl.lookup y = env.cells.lookup y := by
  obtain ⟨cl, h1, h2, h3⟩ := clos_go (env := env) sc.names [] h (fun y c e => by simp at e)
  refine ⟨cl, ?_, fun y hy => ?_⟩
  · rw [← h1]
    simp only [closureFor, bind_pure]
    try rfl
  · have := h3 y (.inl ⟨(y, .free), lookup_mem hy, rfl, rfl⟩)
    obtain ⟨c, hc⟩ := Option.isSome_iff_exists.mp this
    rw [hc, h2 y c hc]

theorem Rel.re {P : Params} {K : Frag} {h₀ : Heap} {L : Addr} {mF : Str → Option Value} {led : Led} {fr : Frz} {H : RH} {s s' : Shared} (r : Rel P K h₀ L mF led fr H s) (e : s'.heap = s.heap) : Rel P K h₀ L mF led fr H s' :=
  ⟨r.Z, by rw [e]; exact r.F, by rw [e]; exact r.N, r.D, r.X, r.R⟩
theorem self_raw {prog : Program} {w : World} {A : Around} {E : Value → Shared → Prop} {s : Shared} {I : Addr} {o : Obj} {src : RV} {u : Value} {i : Nat} {Q : Value → Shared → Prop} (gI : s.heap.get? I = some o) (hit : ItAt src u i o) (h : Q (.ref I) s) :
    wpAny (model prog w) A (pyIter (.ref I)) Q E s := by
  cases hit with
  | list h1 h2 => exact wpAny_pyIter_listiter ⟨o, gI, h1, h2⟩ h
  | rng => exact wpAny_pyIter_rangeiter gI h
theorem quiet_dict {o : Obj} {es : Array DictEntry} {ep : Nat} (h : o.data = .dict es ep) : quiet o := ⟨.inr ⟨es, ep, h⟩, fun v e => by rw [h] at e; cases e⟩
theorem quiet_list (ws : List Value) (k : Nat) : quiet (lstO ws k) := ⟨.inl ⟨by simp, by simp, by simp⟩, fun v e => by cases e⟩

structure ScOk (ns : Ns) (x : Str) (sc : Scope) : Prop where
  knd : sc.kind = .function
  nd : (sc.names.map (·.1)).Nodup
  free : ∀ q ∈ sc.names, q.2 = .free → ns.lookup q.1 = some .cell ∨ ns.lookup q.1 = some .free
  hx : sc.names.lookup x = some .local
  cell : ∀ q ∈ sc.names, q.2 ≠ .cell
  loc : ∀ q ∈ sc.names, q.2 = .local → q.1 = x ∨ q.1 = (".0" : Str)
theorem scOk_of {ns : Ns} {x : Str} {sc : Scope} (h1 : scOk ns sc = true) (h2 : cmOk x sc = true) : ScOk ns x sc := by
  simp only [scOk, Bool.and_eq_true, decide_eq_true_eq] at h1
  simp only [cmOk, Bool.and_eq_true] at h2
  obtain ⟨⟨⟨⟨⟨a1, _⟩, _⟩, a2⟩, a3⟩, _⟩ := h1
  obtain ⟨⟨b1, b2⟩, b3⟩ := h2
  refine ⟨eq_of_beq a1, a2, fun q hq e => ?_, eq_of_beq b1, fun q hq => ?_, fun q hq e => ?_⟩
  · have := List.all_eq_true.mp a3 q hq
    simp only [Bool.or_eq_true, e, bne_self_eq_false, Bool.false_eq_true, false_or] at this
    rcases this with h | h
    · exact .inl (eq_of_beq h)
    · exact .inr (eq_of_beq h)
  · have := List.all_eq_true.mp b2 q hq
    simpa using this
  · have := List.all_eq_true.mp b3 q hq
    simp only [Bool.or_eq_true, e, bne_self_eq_false, Bool.false_eq_true, false_or] at this
    rcases this with h | h
    · exact .inl (eq_of_beq h)
    · exact .inr (eq_of_beq h)
theorem nodup_lookup {names : List (Str × NameKind)} (h : (names.map (·.1)).Nodup) : ∀ q ∈ names, names.lookup q.1 = some q.2 := by
  induction names with
  | nil => intro q hq; cases hq
  | cons p r ih =>
    intro q hq
    rw [List.map_cons, List.nodup_cons] at h
    obtain ⟨m, k⟩ := p
    rcases List.mem_cons.mp hq with rfl | hq
    · simp
    · rw [List.lookup_cons]
      have : (q.1 == m) = false := by
        cases hb : q.1 == m with
        | false => rfl
        | true => exact absurd (List.mem_map.mpr ⟨q, hq, eq_of_beq hb⟩) h.1
      rw [this]
      exact ih h.2 q hq

section
variable {prog : Program} {w : World} {K : Frag} {G : RProg} {U : UTy} {p : Program} {loose : List Str} {mg mb : Str → Option Value} {n : Nat}

/-- the state within a comprehension's turn -/
theorem comp_now {A : Around} {fenv env : Env} {ns : Ns} {h₀ : Heap} {L : Addr} {mF mL mC : Str → Option Value} {led led' : Led} {fr fr' : Frz} {H H' : RH} {loc : Loc} {s s' : Shared} {sc : Scope} {x' : String} {cl : List (Str × Addr)} {C : Addr} {oC : Obj} {v : RV} {u : Value}
    (N : Now prog w K p loose mg mb n A fenv h₀ L env ns mF mL led fr loc H s) (S : ScOk ns (Str.ofString x') sc) (hcl : ∀ y, sc.names.lookup y = some .free → cl.lookup y = env.cells.lookup y)
    (r : Rel w.params K h₀ L mF led' fr' H' s') (hx : Ext led led') (hf : Sub fr fr') (hC : (C, oC) ∈ fr') (hn : s'.heap.Ns C mC) (hm : mC (Str.ofString x') = some u) (hv : VRel K led' fr' v u) :
    Now prog w K p loose mg mb n A fenv h₀ L (compEnvC sc cl C env) sc.names mF mC led' fr' (setL x' v loc) H' s' := by
  have kk : ∀ y, (compEnvC sc cl C env).kindOf y = (sc.names.lookup y).map fun k => if (k == NameKind.free && env.scope.kind == .function && env.kindOf y == some .cell) then NameKind.cell else k := fun y => lookup_relabel y sc.names
  obtain ⟨o, es, ep, g, d, k, f⟩ := hn
  have eo : o = oC := by
    have := r.at (List.mem_append.mpr (.inr hC))
    exact Option.some.inj (g.symm.trans this)
  subst eo
  refine ⟨N.a, ⟨?_, N.e.gl, N.e.bl, N.e.frm, fun y k hk => ?_, fun y hy => ?_, .inr ⟨o, es, ep, hC, d, k, f⟩⟩, fun y vv e => ?_, r⟩
  · show (relabel sc env).kind = _
    exact S.knd
  · rw [kk, hk, Option.map_some]
    by_cases hc : (k == NameKind.free && env.scope.kind == .function && env.kindOf y == some .cell) = true
    · rw [if_pos hc]
      simp only [Bool.and_eq_true] at hc
      exact .inr ⟨eq_of_beq hc.1.1, rfl⟩
    · rw [if_neg hc]; exact .inl rfl
  · rcases hy with hy | hy
    · exact absurd rfl (S.cell (y, .cell) (lookup_mem hy))
    · obtain ⟨c, hc⟩ := N.e.cel y (S.free (y, .free) (lookup_mem hy) rfl)
      exact ⟨c, by show cl.lookup y = _; rw [hcl y hy]; exact hc⟩
  · rw [lookup_setL] at e
    by_cases hy : y = x'
    · subst hy
      rw [if_pos rfl] at e
      cases e
      refine ⟨fun _ _ => ⟨u, hm, hv⟩, fun h => ?_⟩
      rw [kk, S.hx] at h
      rcases h with h | h
      · simp at h
      · simp at h
    · rw [if_neg hy] at e
      refine ⟨fun h hd => ?_, fun h => ?_⟩
      · rw [kk] at h
        cases hl : sc.names.lookup (Str.ofString y) with
        | none => rw [hl] at h; cases h
        | some k =>
          rw [hl, Option.map_some, Option.some.injEq] at h
          have hk : k = .local := by
            split at h
            · cases h
            · exact h
          subst hk
          rcases S.loc _ (lookup_mem hl) rfl with h1 | h1
          · exact absurd (ofString_inj h1) hy
          · exact absurd h1 hd
      · have : sc.names.lookup (Str.ofString y) = some .free := by
          rw [kk] at h
          cases hl : sc.names.lookup (Str.ofString y) with
          | none => rw [hl] at h; rcases h with h | h <;> cases h
          | some k =>
            rw [hl, Option.map_some] at h
            cases k with
            | free => rfl
            | cell => exact absurd rfl (S.cell _ (lookup_mem hl))
            | «local» => simp at h
            | globalExplicit => simp at h
            | globalImplicit => simp at h
        have hns := S.free _ (lookup_mem this) rfl
        have hke : env.kindOf (Str.ofString y) = some .cell ∨ env.kindOf (Str.ofString y) = some .free := by
          rcases hns with hns | hns
          · rcases N.e.kin _ _ hns with q | ⟨q, _⟩
            · exact .inl q
            · cases q
          · rcases N.e.kin _ _ hns with q | ⟨_, q⟩
            · exact .inr q
            · exact .inl q
        obtain ⟨c, o', u', h1, h2, h3, h4⟩ := (N.l y vv e).2 hke
        exact ⟨c, o', u', by show cl.lookup _ = _; rw [hcl _ this]; exact h1, hf _ h2, h3, h4.mono hx hf⟩

/-- where a comprehension stands -/
inductive CInv (w : World) (K : Frag) (G : RProg) (U : UTy) (h₀ : Heap) (L : Addr) (mF : Str → Option Value) (elt' : RE) (x' : String) (ifs' : List RE) (loc : Loc) (src : RV) (u : Value) (l : List RV) (I C D : Addr) (led : Led) (fr : Frz) (H : RH) (s : Shared) (Qf : List RV → RH → Prop) (k : Nat) (s' : Shared) : Prop where
  | mk (i : Nat) (rest acc : List RV) (led' : Led) (fr' : Frz) (H' : RH) (oI oC : Obj) (mC : Str → Option Value) (ws : List Value) (kk : Nat) : k = rest.length + 1 → l.drop i = rest → i ≤ l.length → acc.length ≤ i → Rel w.params K h₀ L mF led' fr' H' s' → (I, oI) ∈ fr' → ItAt src u i oI →
      (C, oC) ∈ fr' → s'.heap.Ns C mC → quiet oC → (D, lstO ws kk) ∈ fr' → VsRel K led' fr' acc ws → VRel K led' fr' src u →
      wpTurns (fun v H' k => wpIfs G U ifs' (setL x' v loc) H' fun ok H'' => if ok then wpE G U elt' (setL x' v loc) H'' fun r H₃ => k (some r) H₃ else k none H'') (srcOf H src) rest acc H' Qf →
      (∀ q ∈ fr, q ∈ fr' ∧ q.1 ≠ I ∧ q.1 ≠ C ∧ q.1 ≠ D) → Ext led led' → Sm s s' → CInv w K G U h₀ L mF elt' x' ifs' loc src u l I C D led fr H s Qf k s'
theorem comp_loop {elt it : Expr} {px pos : Pos} {ifs : List Expr} {sc : Scope} {elt' : RE} {x' : String} {ifs' : List RE} (h2 : EvOk prog w K G U p loose mg mb n elt elt') (h3 : IfsOk prog w K G U p loose mg mb n ifs ifs')
    {A : Around} {fenv env : Env} {ns : Ns} {h₀ : Heap} {L : Addr} {mF mL mC : Str → Option Value} {led : Led} {fr fr₀ : Frz} {H : RH} {loc : Loc} {s s₀ : Shared} {cl : List (Str × Addr)} {I C D : Addr} {oI oC : Obj} {src : RV} {u : Value} {l : List RV}
    {Qf : List RV → RH → Prop} {RR : Result → Shared → Prop}
    (N : Now prog w K p loose mg mb n A fenv h₀ L env ns mF mL led fr loc H s) (S : ScOk ns (Str.ofString x') sc) (hcl : ∀ y, sc.names.lookup y = some .free → cl.lookup y = env.cells.lookup y)
    (hme : mtE sc.names elt elt' = true) (hmi : mtEs sc.names ifs ifs' = true) (hv : VRel K led fr₀ src u) (hp : placedB H src = true) (hl : itemsR H src = some l) (hlen : l.length < 4000)
    (hw : wpTurns (fun v H' k => wpIfs G U ifs' (setL x' v loc) H' fun ok H'' => if ok then wpE G U elt' (setL x' v loc) H'' fun r H₃ => k (some r) H₃ else k none H'') (srcOf H src) l [] H Qf)
    (r : Rel w.params K h₀ L mF led fr₀ H s₀) (hI : (I, oI) ∈ fr₀) (hit : ItAt src u 0 oI) (hC : (C, oC) ∈ fr₀) (hn : s₀.heap.Ns C mC) (hqC : quiet oC) (hD : (D, lstO [] 0) ∈ fr₀) (hCI : C ≠ I) (hDI : D ≠ I) (hDC : D ≠ C)
    (hf : ∀ q ∈ fr, q ∈ fr₀ ∧ q.1 ≠ I ∧ q.1 ≠ C ∧ q.1 ≠ D) (z : Sm s s₀)
    (hRR : ∀ oC mC led' fr' H' vs ws k s', Qf vs H' → Rel w.params K h₀ L mF led' fr' H' s' → (D, lstO ws k) ∈ fr' → VsRel K led' fr' vs ws → (C, oC) ∈ fr' → s'.heap.Ns C mC → quiet oC → (∀ q ∈ fr, q ∈ fr' ∧ q.1 ≠ C ∧ q.1 ≠ D) → Ext led led' → Sm s s' → RR (.ok .next) s') :
    codeAny (model prog w) A (.compLoop (.ListComp elt [⟨.Name (Str.ofString x') px, it, ifs, 0⟩] sc pos) 0 (.ref I) (.ref D) (compEnvC sc cl C env)) RR s₀ := by
  refine codeAny_compLoop_tests (CInv w K G U h₀ L mF elt' x' ifs' loc src u l I C D led fr H s Qf) ?_ (l.length + 1)
    (.mk 0 l [] led fr₀ H oI oC mC [] 0 rfl rfl (Nat.zero_le _) (Nat.le_refl _) r hI hit hC hn hqC hD .nil hv hw hf (Ext.refl _) z)
  rintro k s₁ ⟨i, rest, acc, led₁, fr₁, H₁, oI, oC, mC, ws, kk, rfl, hrest, hi, hacc, r₁, hI, hit, hC, hn, hqC, hD, hA, hv₁, hw₁, hf₁, x₁, z₁⟩
  have gI := r₁.at (List.mem_append.mpr (.inr hI))
  cases rest with
  | nil =>
    simp only [wpTurns] at hw₁
    obtain ⟨hpl, hl₁⟩ := src_same hp hl hw₁.1
    have hlen' : l.length = i := by
      have := List.drop_eq_nil_iff.mp hrest; omega
    refine end_raw N.a.X N.a.hd r₁ gI hv₁ hit hpl hl₁ hlen' fun s' hk z => ?_
    have r' := r₁.drop hI hit.quiet hk
    have hS := r₁.subI_without hI hit.quiet
    refine hRR oC mC led₁ (without I fr₁) H₁ acc ws kk s' hw₁.2 r' (without_mem.mpr ⟨hD, hDI⟩) (hA.monoI hS) (without_mem.mpr ⟨hC, hCI⟩) ?_ hqC (fun q hq => ⟨without_mem.mpr ⟨(hf₁ q hq).1, (hf₁ q hq).2.1⟩, (hf₁ q hq).2.2⟩) x₁ (z₁.trans z)
    obtain ⟨o', es, ep, g, d⟩ := hn
    exact ⟨o', es, ep, hk C o' hCI g, d⟩
  | cons v rest =>
    simp only [wpTurns] at hw₁
    obtain ⟨hsrc, hb⟩ := hw₁
    obtain ⟨hpl, hl₁⟩ := src_same hp hl hsrc
    have hlt : i < l.length := by
      by_cases h : i < l.length
      · exact h
      · rw [List.drop_eq_nil_iff.mpr (by omega)] at hrest; cases hrest
    have hd := List.drop_eq_getElem_cons hlt
    rw [hrest] at hd
    simp only [List.cons.injEq] at hd
    have hvi : l[i]? = some v := by rw [List.getElem?_eq_getElem hlt, hd.1]
    refine next_raw N.a.X r₁ gI hv₁ hit hpl hl₁ hvi fun u' oI' s₂ hvu hit' hk₂ g₂ z₂ => ?_
    obtain ⟨r₂, S₂⟩ := r₁.swap hI hit.quiet hk₂ g₂
    have hC₂ : (C, oC) ∈ (I, oI') :: without I fr₁ := .tail _ (without_mem.mpr ⟨hC, hCI⟩)
    have hn₂ : s₂.heap.Ns C mC := by
      obtain ⟨o', es, ep, g, d⟩ := hn
      exact ⟨o', es, ep, hk₂ C o' hCI g, d⟩
    have hkx : (compEnvC sc cl C env).kindOf (Str.ofString x') = some .local := lookup_relabel_local S.hx
    refine wpAny_assign_Name (wpAny_storeName_local hkx hn₂ (fun h₃ hn₃ hs₃ => ?_) (by simp [compEnvC, relabel, S.knd]))
    have hn₃' : h₃.Ns C (fun y => if y = Str.ofString x' then some u' else mC y) := hn₃
    obtain ⟨oC', es', ep', gC', dC', kC'⟩ := id hn₃'
    obtain ⟨r₃, S₃⟩ := r₂.swap (s' := { s₂ with heap := h₃, toks := s₂.toks + 1 }) hC₂ hqC (fun b y hb e => hs₃.extBut b y hb e) gC'
    have hD₃ : (D, lstO ws kk) ∈ (C, oC') :: without C ((I, oI') :: without I fr₁) := .tail _ (without_mem.mpr ⟨.tail _ (without_mem.mpr ⟨hD, hDI⟩), hDC⟩)
    have hI₃ : (I, oI') ∈ (C, oC') :: without C ((I, oI') :: without I fr₁) := .tail _ (without_mem.mpr ⟨.head _, fun e => hCI e.symm⟩)
    have hf₃ : ∀ q ∈ fr, q ∈ (C, oC') :: without C ((I, oI') :: without I fr₁) := fun q hq => .tail _ (without_mem.mpr ⟨.tail _ (without_mem.mpr ⟨(hf₁ q hq).1, (hf₁ q hq).2.1⟩), (hf₁ q hq).2.2.1⟩)
    have hvu₃ := (hvu.monoI S₂).monoI S₃
    have N₃ := comp_now N S hcl r₃ x₁ hf₃ (.head _) hn₃' (by simp) hvu₃
    refine h3 hmi N₃ hb ?_
    intro ok led₄ fr₄ H₄ s₄ q₄ r₄ x₄ y₄ z₄
    have ns₄ : s₄.heap.Ns C (fun y => if y = Str.ofString x' then some u' else mC y) := ⟨oC', es', ep', r₄.at (List.mem_append.mpr (.inr (y₄ _ (.head _)))), dC', kC'⟩
    have zz : Sm s s₄ := z₁.trans (z₂.trans (Sm.trans ((Sm.refl s₂).with h₃ (s₂.toks + 1)) z₄))
    have hv₄ := ((hv₁.monoI S₂).monoI S₃).mono x₄ y₄
    have hA₄ := ((hA.monoI S₂).monoI S₃).mono x₄ y₄
    cases ok with
    | false =>
      rw [if_neg Bool.false_ne_true] at q₄ ⊢
      exact ⟨rest.length + 1, Nat.lt_succ_self _, .mk (i + 1) rest acc led₄ fr₄ H₄ oI' oC' _ ws kk rfl hd.2.symm hlt (Nat.le_succ_of_le hacc) r₄ (y₄ _ hI₃) hit' (y₄ _ (.head _)) ns₄ (quiet_dict dC') (y₄ _ hD₃) hA₄ hv₄ q₄
        (fun q hq => ⟨y₄ _ (hf₃ q hq), (hf₁ q hq).2⟩) (x₁.trans x₄) zz⟩
    | true =>
      rw [if_pos rfl] at q₄ ⊢
      refine h2 hme (N₃.next r₄ x₄ y₄) q₄ ?_
      intro rv u₅ led₅ fr₅ H₅ s₅ q₅ hv₅ r₅ x₅ y₅ z₅
      have hl5 := hA.length
      have hsz : ws.toArray.size ≤ sizeLine := by rw [sizeLine_is]; simp only [List.size_toArray]; omega
      have hD₅ : (D, lstO ws kk) ∈ fr₅ := y₅ _ (y₄ _ hD₃)
      refine wpAny_list_append_plain (hsz := hsz) ⟨kk, r₅.at (List.mem_append.mpr (.inr hD₅))⟩ fun h₆ hl₆ hs₆ => ?_
      obtain ⟨k₆, g₆⟩ := hl₆
      have g₆' : h₆.get? D = some (lstO (ws ++ [u₅]) k₆) := by
        rw [g₆]; simp
      obtain ⟨r₆, S₆⟩ := r₅.swap (s' := { s₅ with heap := h₆ }) hD₅ (quiet_list _ _) (fun b y hb e => hs₆.extBut b y hb e) g₆'
      refine ⟨rest.length + 1, Nat.lt_succ_self _, .mk (i + 1) rest (acc ++ [rv]) led₅ ((D, lstO (ws ++ [u₅]) k₆) :: without D fr₅) H₅ oI' oC' _ (ws ++ [u₅]) k₆ rfl hd.2.symm hlt (by rw [List.length_append]; exact Nat.succ_le_succ hacc) r₆ (.tail _ (without_mem.mpr ⟨y₅ _ (y₄ _ hI₃), fun e => hDI e.symm⟩)) hit'
        (.tail _ (without_mem.mpr ⟨y₅ _ (y₄ _ (.head _)), fun e => hDC e.symm⟩)) ⟨oC', es', ep', ?_, dC', kC'⟩ (quiet_dict dC') (.head _) (((hA₄.mono x₅ y₅).monoI S₆).append (.cons (hv₅.monoI S₆) .nil)) ((hv₄.mono x₅ y₅).monoI S₆) q₅
        (fun q hq => ⟨.tail _ (without_mem.mpr ⟨y₅ _ (y₄ _ (hf₃ q hq)), (hf₁ q hq).2.2.2⟩), (hf₁ q hq).2⟩) (x₁.trans (x₄.trans x₅)) (zz.trans (z₅.trans ((Sm.refl s₅).with h₆ s₅.toks)))⟩
      exact hs₆.extBut C oC' (fun e => hDC e.symm) (r₅.at (List.mem_append.mpr (.inr (y₅ _ (y₄ _ (.head _))))))

theorem comp_core {elt it : Expr} {px pos : Pos} {ifs : List Expr} {sc : Scope} {elt' : RE} {x' : String} {ifs' : List RE} (h2 : EvOk prog w K G U p loose mg mb n elt elt') (h3 : IfsOk prog w K G U p loose mg mb n ifs ifs')
    {A : Around} {fenv env : Env} {ns : Ns} {h₀ : Heap} {L : Addr} {mF mL : Str → Option Value} {led : Led} {fr : Frz} {H : RH} {loc : Loc} {s : Shared} {E : Value → Shared → Prop} {cl : List (Str × Addr)} {src : RV} {u : Value} {l : List RV}
    {Qf : List RV → RH → Prop} {RR : Value → Addr → Result → Shared → Prop}
    (N : Now prog w K p loose mg mb n A fenv h₀ L env ns mF mL led fr loc H s) (S : ScOk ns (Str.ofString x') sc) (hcl : ∀ y, sc.names.lookup y = some .free → cl.lookup y = env.cells.lookup y)
    (hme : mtE sc.names elt elt' = true) (hmi : mtEs sc.names ifs ifs' = true) (hv : VRel K led fr src u) (hp : placedB H src = true) (hl : itemsR H src = some l) (hlen : l.length < 4000)
    (hw : wpTurns (fun v H' k => wpIfs G U ifs' (setL x' v loc) H' fun ok H'' => if ok then wpE G U elt' (setL x' v loc) H'' fun r H₃ => k (some r) H₃ else k none H'') (srcOf H src) l [] H Qf)
    (hRR : ∀ D C oC mC led' fr' H' vs ws k s', Qf vs H' → Rel w.params K h₀ L mF led' fr' H' s' → (D, lstO ws k) ∈ fr' → VsRel K led' fr' vs ws → (C, oC) ∈ fr' → s'.heap.Ns C mC → quiet oC → D ≠ C → (∀ q ∈ fr, q ∈ fr' ∧ q.1 ≠ C ∧ q.1 ≠ D) → Ext led led' → Sm s s' → RR (.ref D) C (.ok .next) s') :
    wpAny (model prog w) A (pyIter u) (fun itv s₂ => wpAny (model prog w) A (newList []) (fun acc s₃ => wpAny (model prog w) A (newFunctionEnv sc env.globals cl [] env.qual none .none (some env)) (fun cenv s₄ =>
      codeAny (model prog w) A (.compStart (.ListComp elt [⟨.Name (Str.ofString x') px, it, ifs, 0⟩] sc pos) 0 itv acc { cenv with scope := relabel sc env }) (RR acc cenv.locals) s₄) E s₃) E s₂) E s := by
  refine iter_raw N.a.X N.r hv hp fun oI hfI hit => ?_
  have r₂ := N.r.newFr oI hfI
  have fresh : ∀ q ∈ fr, q.1 < s.heap.objs.size := fun q hq => Heap.lt_size (N.r.at (List.mem_append.mpr (.inr hq)))
  refine wpAny_newObj_type (hd := by size_fits) (wpAny_newFunctionEnv S.cell (by intro y hy; simp at hy) (fun h₁ hns₁ hsb₁ => ?_) S.knd)
  dsimp only at hns₁ hsb₁ ⊢
  have r₃ := r₂.newFr (lstO [] 0) rfl
  have e1 : (s.heap.push oI).objs.size = s.heap.objs.size + 1 := by rw [Heap.size_push]
  generalize hH2 : s.heap.push oI = H2 at hns₁ hsb₁ r₃ e1 ⊢
  have e2 : (H2.push (lstO [] 0)).objs.size = s.heap.objs.size + 2 := by rw [Heap.size_push, e1]
  have r₄ := r₃.newFr { cls := .type "dict", data := .dict #[] } rfl
  have hns₁' : h₁.Ns (H2.push (lstO [] 0)).objs.size (fun x => ([] : List (Str × Value)).reverse.lookup x) := hns₁
  have hsb₁' : Heap.SameBut (H2.push (lstO [] 0)).objs.size ((H2.push (lstO [] 0)).push { cls := .type "dict", data := .dict #[] }) h₁ := hsb₁
  obtain ⟨oC, es, ep, gC, dC, kC⟩ := id hns₁'
  obtain ⟨r₅, S₅⟩ := r₄.swap (s' := { s with heap := h₁ }) (.head _) (quiet_dict rfl) (fun b y hb e => hsb₁'.extBut b y hb e) gC
  have hIC : s.heap.objs.size ≠ (H2.push (lstO [] 0)).objs.size := by omega
  have hDC : H2.objs.size ≠ (H2.push (lstO [] 0)).objs.size := by omega
  have hDI : H2.objs.size ≠ s.heap.objs.size := by omega
  have hI₅ : (s.heap.objs.size, oI) ∈ ((H2.push (lstO [] 0)).objs.size, oC) :: without (H2.push (lstO [] 0)).objs.size (((H2.push (lstO [] 0)).objs.size, { cls := .type "dict", data := .dict #[] }) :: (H2.objs.size, lstO [] 0) :: (s.heap.objs.size, oI) :: fr) :=
    .tail _ (without_mem.mpr ⟨.tail _ (.tail _ (.head _)), hIC⟩)
  have fC : ∀ q ∈ fr, q.1 ≠ (H2.push (lstO [] 0)).objs.size := fun q hq => by rw [e2]; exact Nat.ne_of_lt (Nat.lt_succ_of_lt (Nat.lt_succ_of_lt (fresh q hq)))
  have loop : ∀ s₄ : Shared, s₄.heap = h₁ → Sm s s₄ → codeAny (model prog w) A (.compLoop (.ListComp elt [⟨.Name (Str.ofString x') px, it, ifs, 0⟩] sc pos) 0 (.ref s.heap.objs.size) (.ref H2.objs.size) (compEnvC sc cl (H2.push (lstO [] 0)).objs.size env))
      (RR (.ref H2.objs.size) (H2.push (lstO [] 0)).objs.size) s₄ := fun s₄ e z => by
    refine comp_loop h2 h3 (RR := RR (.ref H2.objs.size) (H2.push (lstO [] 0)).objs.size) N S hcl hme hmi (hv.mono (Ext.refl _) fun q hq => ?_) hp hl hlen hw (r₅.re (s' := s₄) e) hI₅ hit (.head _) (by rw [e]; exact hns₁') (quiet_dict dC)
      (.tail _ (without_mem.mpr ⟨.tail _ (.head _), hDC⟩)) (fun e => hIC e.symm) hDI hDC (fun q hq => ⟨?_, ?_, ?_, ?_⟩) z fun oC mC led' fr' H' vs ws k s' a1 a2 a3 a4 a5 a6 a7 a8 a9 a10 => hRR _ _ oC mC led' fr' H' vs ws k s' a1 a2 a3 a4 a5 a6 a7 hDC a8 a9 a10
    · exact .tail _ (without_mem.mpr ⟨.tail _ (.tail _ (.tail _ hq)), fC q hq⟩)
    · exact .tail _ (without_mem.mpr ⟨.tail _ (.tail _ (.tail _ hq)), fC q hq⟩)
    · exact Nat.ne_of_lt (fresh q hq)
    · exact fC q hq
    · rw [e1]; exact Nat.ne_of_lt (Nat.lt_succ_of_lt (fresh q hq))
  have gI : h₁.get? s.heap.objs.size = some oI := r₅.at (List.mem_append.mpr (.inr hI₅))
  exact codeAny_compStart_list (loop _ rfl ((Sm.refl s).with h₁ _)) (self_raw gI hit (loop _ rfl ((Sm.refl s).with h₁ _)))

theorem ev_comp1 {elt it : Expr} {x : Str} {xp pos : Pos} {ifs : List Expr} {k : Int} {sc : Scope} {elt' it' : RE} {x' : String} {ifs' : List RE} (h1 : EvOk prog w K G U p loose mg mb n it it') (h2 : EvOk prog w K G U p loose mg mb n elt elt')
    (h3 : IfsOk prog w K G U p loose mg mb n ifs ifs') : EvOk prog w K G U p loose mg mb n (.ListComp elt [⟨.Name x xp, it, ifs, k⟩] sc pos) (.comp1 elt' x' it' ifs') := by
  intro A fenv env ns h₀ L mF mL led fr H loc s E Qr Q hm N hw hQ
  simp only [mtE_comp1, Bool.and_eq_true] at hm
  obtain ⟨⟨⟨⟨⟨⟨hk, hx⟩, hsc⟩, hcm⟩, hit⟩, hel⟩, hif⟩ := hm
  have ek : k = 0 := eq_of_beq hk
  have ex := eq_of_beq hx
  subst ek; subst ex
  have S := scOk_of hsc hcm
  rw [wpE_comp1] at hw
  obtain ⟨cl, hcl, hclk⟩ := clos_ok (sc := sc) (env := env) fun q hq e => N.e.cel q.1 (S.free q hq e)
  rw [eval_ListComp]
  refine wpAny_comprehension_free (use := none) rfl (foldless hit) hcl S.knd (fun q hq e => by rw [nodup_lookup S.nd q hq, e]) ?_
  refine h1 hit N hw ?_
  intro src u led₁ fr₁ H₁ s₁ q hv r₁ x₁ y₁ z₁
  try dsimp only at q
  split at q
  · rename_i l hl
    obtain ⟨hp, hlen, q⟩ := q
    refine comp_core (RR := fun acc C => compPost (model prog w) A E none Q acc C) h2 h3 (N.next r₁ x₁ y₁) S hclk hel hif hv hp hl hlen q ?_
    intro D C oC mC led' fr' H' vs ws k s' hq r' hD hA hC hn hqC hDC hf x' z'
    refine ⟨mC, hn, fun h' hs' => ?_⟩
    have r₂ := r'.drop (s' := { s' with heap := h' }) hC hqC fun b y hb e => hs'.extBut b y hb e
    have S₂ := r'.subI_without hC hqC
    obtain ⟨r₃, hE, hadr⟩ := r₂.adopt (without_mem.mpr ⟨hD, hDC⟩) (hA.monoI S₂)
    exact hQ (.ref H'.length) (.ref D) _ _ _ _ hq (.ref hadr) r₃ (x₁.trans (x'.trans hE)) (y₁.trans fun q hq => without_mem.mpr ⟨without_mem.mpr ⟨(hf q hq).1, (hf q hq).2.1⟩, (hf q hq).2.2⟩) (z₁.trans (z'.trans ((Sm.refl s').with h' s'.toks)))
  · exact q.elim
end
end Mine

namespace Mine
open PySem PySem.W PySem.Calls PyProof.Rows PySem.SeqAt

section
variable {prog : Program} {w : World} {K : Frag} {G : RProg} {U : UTy} {p : Program} {loose : List Str} {mg mb : Str → Option Value} {n : Nat}

theorem ev_vac {e : Expr} {r : RE} (h : ∀ ns, mtE ns e r = false) : EvOk prog w K G U p loose mg mb n e r := by
  intro A fenv env ns h₀ L mF mL led fr H loc s E Qr Q hm N hw hQ
  rw [h ns] at hm; cases hm
theorem ts_vac {e : Expr} {r : RE} (h : ∀ ns, mtE ns e r = false) : TsOk prog w K G U p loose mg mb n e r := by
  intro A fenv env ns h₀ L mF mL led fr H loc s E Qr Q hm N hw hQ
  rw [h ns] at hm; cases hm

theorem ev_const {c : Const} {k : Nat} {pos : Pos} {v : RV} : EvOk prog w K G U p loose mg mb n (.Constant c k pos) (.const v) := by
  intro A fenv env ns h₀ L mF mL led fr H loc s E Qr Q hm N hw hQ
  exact const_ok hm N.r hw hQ
theorem ev_loc {id : Str} {pos : Pos} {x : String} : EvOk prog w K G U p loose mg mb n (.Name id pos) (.loc x) := by
  intro A fenv env ns h₀ L mF mL led fr H loc s E Qr Q hm N hw hQ
  simp only [mtE_loc, Bool.and_eq_true, Bool.not_eq_true'] at hm
  rw [wpE_loc] at hw
  have e := eq_of_beq hm.1.1
  subst e
  exact name_loc hm.1.2 hm.2 N.e N.l N.r hw hQ
theorem ev_glb {id : Str} {pos : Pos} {x : String} (O : ProgOk K G) : EvOk prog w K G U p loose mg mb n (.Name id pos) (.glb x) := by
  intro A fenv env ns h₀ L mF mL led fr H loc s E Qr Q hm N hw hQ
  simp only [mtE_glb, Bool.and_eq_true, Bool.not_eq_true'] at hm
  rw [wpE_glb] at hw
  have e := eq_of_beq hm.1.1
  subst e
  exact name_glb O N.a (eq_of_beq hm.1.2) hm.2 N.e N.r hw hQ
theorem ev_bool {es : List Expr} {rs : List RE} {op : BoolOp} {b : Bool} {pos : Pos} (h : BoolsOk prog w K G U p loose mg mb n es rs) : EvOk prog w K G U p loose mg mb n (.BoolOp op es pos) (.boolop b rs) := by
  intro A fenv env ns h₀ L mF mL led fr H loc s E Qr Q hm N hw hQ
  simp only [mtE_boolop, Bool.and_eq_true] at hm
  rw [wpE_boolop] at hw
  have hb : (op == .And) = b := eq_of_beq hm.1
  rw [← hb] at hw
  exact h hm.2 N hw hQ

theorem evs_all {es : List Expr} : ∀ {rs : List RE}, (∀ e ∈ es, ∀ r, EvOk prog w K G U p loose mg mb n e r) → EvsOk prog w K G U p loose mg mb n es rs := by
  induction es with
  | nil =>
    intro rs h
    cases rs with
    | nil => exact evs_nil
    | cons r rs =>
      intro A fenv env ns h₀ L mF mL led fr H loc s E Qr Q hm N hw hQ
      exact absurd hm Bool.false_ne_true
  | cons e es ih =>
    intro rs h
    cases rs with
    | nil =>
      intro A fenv env ns h₀ L mF mL led fr H loc s E Qr Q hm N hw hQ
      exact absurd hm Bool.false_ne_true
    | cons r rs => exact evs_cons (h e (.head _) r) (ih fun e he => h e (.tail _ he))

theorem ev_of {e : Expr} {r : RE} (h : ∀ ns, mtE ns e r = true → EvOk prog w K G U p loose mg mb n e r) : EvOk prog w K G U p loose mg mb n e r := by
  intro A fenv env ns h₀ L mF mL led fr H loc s E Qr Q hm N hw hQ
  exact h ns hm hm N hw hQ
theorem ts_of {e : Expr} {r : RE} (h : ∀ ns, mtE ns e r = true → TsOk prog w K G U p loose mg mb n e r) : TsOk prog w K G U p loose mg mb n e r := by
  intro A fenv env ns h₀ L mF mL led fr H loc s E Qr Q hm N hw hQ
  exact h ns hm hm N hw hQ
theorem evalOk' (O : ProgOk K G) (hU : UOk prog w K p loose mg mb U n) : ∀ (N : Nat) (e : Expr), sizeOf e < N → ∀ r, EvOk prog w K G U p loose mg mb n e r ∧ TsOk prog w K G U p loose mg mb n e r := by
  intro N
  induction N with
  | zero => intro e h; exact absurd h (Nat.not_lt_zero _)
  | succ N ih =>
    intro e he r
    have all : ∀ es : List Expr, sizeOf es ≤ N → ∀ e ∈ es, ∀ r, EvOk prog w K G U p loose mg mb n e r := fun es h e hm r => (ih e (Nat.lt_of_lt_of_le (List.sizeOf_lt_of_mem hm) h) r).1
    have allT : ∀ es : List Expr, sizeOf es ≤ N → ∀ e ∈ es, ∀ r, TsOk prog w K G U p loose mg mb n e r := fun es h e hm r => (ih e (Nat.lt_of_lt_of_le (List.sizeOf_lt_of_mem hm) h) r).2
    have key : ∀ ns, mtE ns e r = true → EvOk prog w K G U p loose mg mb n e r ∧ TsOk prog w K G U p loose mg mb n e r := by
      intro ns hm
      cases mt_of hm with
      | const => exact ⟨ev_const, ts_plain ev_const (fun _ _ _ _ => rfl) (fun _ _ => rfl)⟩
      | loc => exact ⟨ev_loc, ts_plain ev_loc (fun _ _ _ _ => rfl) (fun _ _ => rfl)⟩
      | glb => exact ⟨ev_glb O, ts_plain (ev_glb O) (fun _ _ _ _ => rfl) (fun _ _ => rfl)⟩
      | boolop =>
        simp only [Expr.BoolOp.sizeOf_spec] at he
        exact ⟨ev_bool (bools_ok (all _ (by omega))), ts_bool (alls_ok (allT _ (by omega)))⟩
      | bin h' =>
        rename_i l rr op op' pos a b
        simp only [Expr.BinOp.sizeOf_spec] at he
        have ho : op = op' := by simp only [mtE_bin, Bool.and_eq_true] at hm; exact eq_of_beq hm.1.1
        subst ho
        have h : EvOk prog w K G U p loose mg mb n (.BinOp l op rr pos) (.bin op a b) := ev_bin (ih l (by omega) a).1 (ih rr (by omega) b).1
        exact ⟨h, ts_plain h (fun _ _ _ _ => rfl) (fun _ _ => rfl)⟩
      | not =>
        simp only [Expr.UnaryOp.sizeOf_spec] at he
        exact ⟨ev_not (ih _ (by omega) _).1, ts_not (ih _ (by omega) _).2⟩
      | list h' =>
        rename_i es pos rs
        simp only [Expr.List.sizeOf_spec] at he
        have h : EvOk prog w K G U p loose mg mb n (.List es pos) (.list rs) := ev_list (evs_all (all es (by omega)))
        exact ⟨h, ts_plain h (fun _ _ _ _ => rfl) (fun _ _ => rfl)⟩
      | tup h' =>
        rename_i es k pos rs
        simp only [Expr.Tuple.sizeOf_spec] at he
        have h : EvOk prog w K G U p loose mg mb n (.Tuple es k pos) (.tup rs) := ev_tup (evs_all (all es (by omega)))
        exact ⟨h, ts_plain h (fun _ _ _ _ => rfl) (fun _ _ => rfl)⟩
      | dict0 => exact ⟨ev_dict0, ts_plain ev_dict0 (fun _ _ _ _ => rfl) (fun _ _ => rfl)⟩
      | comp1 h' =>
        rename_i elt it x xp pos ifs k sc elt' it' x' ifs'
        simp only [Expr.ListComp.sizeOf_spec, List.cons.sizeOf_spec, Comprehension.mk.sizeOf_spec] at he
        have h : EvOk prog w K G U p loose mg mb n (.ListComp elt [⟨.Name x xp, it, ifs, k⟩] sc pos) (.comp1 elt' x' it' ifs') := ev_comp1 (ih it (by omega) it').1 (ih elt (by omega) elt').1 (ifs_ok (allT ifs (by omega)))
        exact ⟨h, ts_plain h (fun _ _ _ _ => rfl) (fun _ _ => rfl)⟩
      | cmp =>
        simp only [Expr.Compare.sizeOf_spec] at he
        exact ⟨ev_cmp (ih _ (by omega) _).1 (chs_ok (all _ (by omega))), ts_cmp (ih _ (by omega) _).1 (chts_ok (all _ (by omega)))⟩
      | call h' =>
        rename_i id np pos args f' rs
        simp only [Expr.Call.sizeOf_spec] at he
        have h : EvOk prog w K G U p loose mg mb n (.Call (.Name id np) args [] pos) (.call f' rs) := ev_call O hU (ih _ (by omega) f').1 (evs_all (all args (by omega)))
        exact ⟨h, ts_plain h (fun _ _ _ _ => rfl) (fun _ _ => rfl)⟩
      | meth h' =>
        rename_i o x ap pos args o' x' rs
        simp only [Expr.Call.sizeOf_spec, Expr.Attribute.sizeOf_spec] at he
        have h : EvOk prog w K G U p loose mg mb n (.Call (.Attribute o x ap) args [] pos) (.meth o' x' rs) := ev_meth O hU (ih o (by omega) o').1 (evs_all (all args (by omega)))
        exact ⟨h, ts_plain h (fun _ _ _ _ => rfl) (fun _ _ => rfl)⟩
      | attr h' =>
        rename_i o x pos o' x'
        simp only [Expr.Attribute.sizeOf_spec] at he
        have h : EvOk prog w K G U p loose mg mb n (.Attribute o x pos) (.attr o' x') := ev_attr O (ih o (by omega) o').1
        exact ⟨h, ts_plain h (fun _ _ _ _ => rfl) (fun _ _ => rfl)⟩
      | sub h' =>
        rename_i o i pos o' i'
        simp only [Expr.Subscript.sizeOf_spec] at he
        have h : EvOk prog w K G U p loose mg mb n (.Subscript o i pos) (.sub o' i') := ev_sub (ih o (by omega) o').1 (ih i (by omega) i').1
        exact ⟨h, ts_plain h (fun _ _ _ _ => rfl) (fun _ _ => rfl)⟩
    exact ⟨ev_of fun ns hm => (key ns hm).1, ts_of fun ns hm => (key ns hm).2⟩
theorem evalOk (O : ProgOk K G) (hU : UOk prog w K p loose mg mb U n) (e : Expr) (r : RE) : EvOk prog w K G U p loose mg mb n e r := (evalOk' O hU _ e (Nat.lt_succ_self _) r).1
theorem testOk (O : ProgOk K G) (hU : UOk prog w K p loose mg mb U n) (e : Expr) (r : RE) : TsOk prog w K G U p loose mg mb n e r := (evalOk' O hU _ e (Nat.lt_succ_self _) r).2
end
end Mine

namespace Mine
open PySem PySem.W PySem.Calls PyProof.Rows PySem.SeqAt

/-- a statement's state: the frame's own cells apart -/
structure SNow (prog : Program) (w : World) (K : Frag) (p : Program) (loose : List Str) (mg mb : Str → Option Value) (n : Nat) (A : Around) (env : Env) (h₀ : Heap) (L : Addr) (m : Str → Option Value)
    (led : Led) (cells fo : Frz) (loc : Loc) (H : RH) (s : Shared) : Prop where
  a : Act prog K p loose mg mb A env h₀ L n
  e : EnvOk env env.scope.names L m m (cells ++ fo)
  lo : env.locals = L
  l : LRel K led (cells ++ fo) env m loc
  r : Rel w.params K h₀ L m led (cells ++ fo) H s
  c1 : (cells.map (·.1)).Nodup
  c2 : ∀ q ∈ fo, q.1 ∉ cells.map (·.1)
  c3 : ∀ x, env.kindOf x = some .cell → ∃ c o v, env.cells.lookup x = some c ∧ (c, o) ∈ cells ∧ o.data = .cell v
  c4 : ∀ x y c, env.cells.lookup x = some c → env.cells.lookup y = some c → x = y
  c5 : ∀ q ∈ cells, ∃ v, q.2.data = .cell v

inductive FlRel (K : Frag) (led : Led) (fr : Frz) : RFl → Flow → Prop where
  | next : FlRel K led fr .next .next
  | ret {v : RV} {u : Value} : VRel K led fr v u → FlRel K led fr (.ret v) (.ret u)

section
variable {prog : Program} {w : World} {K : Frag} {G : RProg} {U : UTy} {p : Program} {loose : List Str} {mg mb : Str → Option Value} {n : Nat} {A : Around} {env : Env} {h₀ : Heap} {L : Addr} {m : Str → Option Value}
  {led led' : Led} {cells fo fr fr' : Frz} {loc : Loc} {H H' : RH} {s s' : Shared} {E : Value → Shared → Prop} {P : Params}

theorem Rel.congr (r : Rel P K h₀ L m led fr H s) (h : ∀ q, q ∈ fr' ↔ q ∈ fr) : Rel P K h₀ L m led fr' H s :=
  ⟨r.Z, r.F, fun q hq => r.N q (List.mem_append.mpr ((List.mem_append.mp hq).imp id (h q).mp)), r.D, fun q hq => r.X q ((h q).mp hq), r.R.mono fun q hq => (h q).mpr hq⟩

/-- what is frozen behind an expression, the frame's own cells taken out -/
def restOf (cells fr : Frz) : Frz := fr.filter fun q => !(cells.map (·.1)).contains q.1
theorem rest_mem (r : Rel P K h₀ L m led fr H s) (hs : Sub cells fr) (q : Addr × Obj) : q ∈ cells ++ restOf cells fr ↔ q ∈ fr := by
  constructor
  · intro h
    rcases List.mem_append.mp h with h | h
    · exact hs q h
    · exact (List.mem_filter.mp h).1
  · intro h
    by_cases hc : q.1 ∈ cells.map (·.1)
    · obtain ⟨c, hm, e⟩ := List.mem_map.mp hc
      have g1 := r.at (List.mem_append.mpr (.inr h))
      have g2 := r.at (List.mem_append.mpr (.inr (hs c hm)))
      rw [e, g1] at g2
      have : q = c := Prod.ext e.symm (Option.some.inj g2)
      exact List.mem_append.mpr (.inl (this ▸ hm))
    · exact List.mem_append.mpr (.inr (List.mem_filter.mpr ⟨h, by simpa using hc⟩))

theorem SNow.now (N : SNow prog w K p loose mg mb n A env h₀ L m led cells fo loc H s) : Now prog w K p loose mg mb n A env h₀ L env env.scope.names m m led (cells ++ fo) loc H s := ⟨N.a, N.e, N.l, N.r⟩

theorem SNow.next (N : SNow prog w K p loose mg mb n A env h₀ L m led cells fo loc H s) (r : Rel w.params K h₀ L m led' fr' H' s') (x : Ext led led') (y : Sub (cells ++ fo) fr') :
    SNow prog w K p loose mg mb n A env h₀ L m led' cells (restOf cells fr') loc H' s' ∧ Sub fo (restOf cells fr') ∧ Sub fr' (cells ++ restOf cells fr') := by
  have hc : Sub cells fr' := fun q hq => y q (List.mem_append.mpr (.inl hq))
  have hm := rest_mem r hc
  have r' := r.congr hm
  have s1 : Sub (cells ++ fo) (cells ++ restOf cells fr') := fun q hq => (hm q).mpr (y q hq)
  have s2 : Sub fo (restOf cells fr') := fun q hq => List.mem_filter.mpr ⟨y q (List.mem_append.mpr (.inr hq)), by simpa using N.c2 q hq⟩
  exact ⟨⟨N.a, N.e.mono s1, N.lo, N.l.mono x s1, r', N.c1, fun q hq => by simpa using (List.mem_filter.mp hq).2, N.c3, N.c4, N.c5⟩, s2, fun q hq => (hm q).mpr hq⟩

/-- an expression within a statement -/
theorem evalS {e : Expr} {r : RE} {Qr : PV} {Q : Value → Shared → Prop} (h : EvOk prog w K G U p loose mg mb n e r) (hm : mtE env.scope.names e r = true) (N : SNow prog w K p loose mg mb n A env h₀ L m led cells fo loc H s)
    (hw : wpE G U r loc H Qr)
    (hQ : ∀ v u led' fo' H' s', Qr v H' → VRel K led' (cells ++ fo') v u → SNow prog w K p loose mg mb n A env h₀ L m led' cells fo' loc H' s' → Ext led led' → Sub fo fo' → Sm s s' → Q u s') :
    wpAny (model prog w) A (eval e env) Q E s := by
  refine h hm N.now hw ?_
  intro v u led₁ fr₁ H₁ s₁ q hv rr x y z
  obtain ⟨N', s1, s2⟩ := N.next rr x y
  exact hQ v u led₁ _ H₁ s₁ q (hv.mono (Ext.refl _) s2) N' x s1 z
theorem testS {e : Expr} {r : RE} {Qr : PB} {Q : Bool → Shared → Prop} (h : TsOk prog w K G U p loose mg mb n e r) (hm : mtE env.scope.names e r = true) (N : SNow prog w K p loose mg mb n A env h₀ L m led cells fo loc H s)
    (hw : wpT G U r (fun l H' Q' => wpE G U r l H' Q') loc H Qr)
    (hQ : ∀ b led' fo' H' s', Qr b H' → SNow prog w K p loose mg mb n A env h₀ L m led' cells fo' loc H' s' → Ext led led' → Sub fo fo' → Sm s s' → Q b s') :
    wpAny (model prog w) A (isTrue e env (eval e env)) Q E s := by
  refine h hm N.now hw ?_
  intro b led₁ fr₁ H₁ s₁ q rr x y z
  obtain ⟨N', s1, s2⟩ := N.next rr x y
  exact hQ b led₁ _ H₁ s₁ q N' x s1 z

/-- a name of the frame's is stored -/
theorem store_ok {x : String} {v : RV} {u : Value} {Q : Unit → Shared → Prop} (hx : isW (env.kindOf (Str.ofString x)) = true) (N : SNow prog w K p loose mg mb n A env h₀ L m led cells fo loc H s) (hv : VRel K led (cells ++ fo) v u)
    (hQ : ∀ m' cells' s', SNow prog w K p loose mg mb n A env h₀ L m' led cells' fo (setL x v loc) H s' → SubI K (cells ++ fo) (cells' ++ fo) → Sm s s' → Q () s') :
    wpAny (model prog w) A (storeName env (Str.ofString x) u) Q E s := by
  cases hk : env.kindOf (Str.ofString x) with
  | none => rw [hk] at hx; simp [isW] at hx
  | some k =>
    rw [hk] at hx
    cases k with
    | «local» =>
      have ns : s.heap.Ns env.locals m := by rw [N.lo]; exact N.r.F.ns
      refine wpAny_storeName_local hk ns (fun h' hn hs => ?_) (by rw [N.e.knd]; rfl)
      rw [N.lo] at hn hs
      refine hQ (fun y => if y = Str.ofString x then some u else m y) cells _ ⟨N.a, ⟨N.e.knd, N.e.gl, N.e.bl, N.e.frm, N.e.kin, N.e.cel, .inl ⟨N.lo, rfl⟩⟩, N.lo, ?_, ?_, N.c1, N.c2, N.c3, N.c4, N.c5⟩ (Sub.refl _).I ((Sm.refl s).with h' _)
      · intro y v' e
        rw [lookup_setL] at e
        by_cases hy : y = x
        · subst hy
          rw [if_pos rfl] at e; cases e
          exact ⟨fun _ _ => ⟨u, by simp, hv⟩, fun h => by rw [hk] at h; rcases h with h | h <;> cases h⟩
        · rw [if_neg hy] at e
          refine ⟨fun h hd => ?_, (N.l y v' e).2⟩
          obtain ⟨u', h1, h2⟩ := (N.l y v' e).1 h hd
          exact ⟨u', by show (if Str.ofString y = Str.ofString x then some u else m (Str.ofString y)) = _; rw [if_neg fun q => hy (ofString_inj q)]; exact h1, h2⟩
      · exact ⟨N.r.Z, N.r.F.set hn hs, N.r.N.set hs, N.r.D, N.r.X, N.r.R⟩
    | cell =>
      obtain ⟨c, o, v₀, hc, hm, hd⟩ := N.c3 _ hk
      have hmem := N.r.N (c, o) (List.mem_append.mpr (.inr (List.mem_append.mpr (.inl hm))))
      refine wpAny_storeName_cell N.e.knd hk hc ⟨o, hmem.1, hd⟩ fun h' hv' hs => ?_
      obtain ⟨o', ho', hd'⟩ := hv'
      let upd : Addr × Obj → Addr × Obj := fun q => if q.1 = c then (c, o') else q
      have updfst : ∀ q, (upd q).1 = q.1 := fun q => by show (if q.1 = c then (c, o') else q).1 = q.1; split <;> simp_all
      have hmap : (cells.map upd).map (·.1) = cells.map (·.1) := by rw [List.map_map]; exact List.map_congr_left fun q _ => updfst q
      have sub1 : ∀ q ∈ cells ++ fo, q.1 ≠ c → q ∈ cells.map upd ++ fo := fun q hq hne => by
        rcases List.mem_append.mp hq with h | h
        · exact List.mem_append.mpr (.inl (List.mem_map.mpr ⟨q, h, by show (if q.1 = c then (c, o') else q) = q; rw [if_neg hne]⟩))
        · exact List.mem_append.mpr (.inr h)
      have new : (c, o') ∈ cells.map upd := List.mem_map.mpr ⟨(c, o), hm, by show (if c = c then (c, o') else (c, o)) = _; rw [if_pos rfl]⟩
      have hI : SubI K (cells ++ fo) (cells.map upd ++ fo) := fun a o₁ hne _ i => by
        rcases i with i | i
        · refine .inl (sub1 _ i fun e => ?_)
          have g := N.r.at (List.mem_append.mpr (.inr i))
          have e' : a = c := e
          subst e'
          rw [hmem.1] at g
          have g' : o = o₁ := Option.some.inj g
          exact hne v₀ (g' ▸ hd)
        · exact .inr i
      have cL : c ≠ L := hmem.2.1
      have F' : Fr h₀ L h' m := ⟨N.r.F.ns.sameBut hs (Ne.symm cL), fun b ob e => (hs.2 b (fun q => by rw [q, hmem.2.2] at e; cases e)).trans (N.r.F.keep b ob e), N.r.F.above⟩
      have back : ∀ q ∈ led.flatten ++ (cells.map upd ++ fo), (q.1 ≠ c ∧ q ∈ led.flatten ++ (cells ++ fo)) ∨ q = (c, o') := fun q hq => by
        have other : q ∈ led.flatten ++ fo → q.1 ≠ c := fun hq e => by
          rcases List.mem_append.mp hq with h | h
          · exact N.r.X (c, o) (List.mem_append.mpr (.inl hm)) (List.mem_map.mpr ⟨q, h, e⟩)
          · exact N.c2 q h (List.mem_map.mpr ⟨(c, o), hm, e.symm⟩)
        rcases List.mem_append.mp hq with h | h
        · exact .inl ⟨other (List.mem_append.mpr (.inl h)), List.mem_append.mpr (.inl h)⟩
        · rcases List.mem_append.mp h with h | h
          · obtain ⟨q', hq', e⟩ := List.mem_map.mp h
            by_cases hc' : q'.1 = c
            · right; rw [← e]; show (if q'.1 = c then (c, o') else q') = _; rw [if_pos hc']
            · have e2 : q' = q := by rw [← e]; show q' = (if q'.1 = c then (c, o') else q'); rw [if_neg hc']
              subst e2
              exact .inl ⟨hc', List.mem_append.mpr (.inr (List.mem_append.mpr (.inl hq')))⟩
          · exact .inl ⟨other (List.mem_append.mpr (.inr h)), List.mem_append.mpr (.inr (List.mem_append.mpr (.inr h)))⟩
      have N' : News h₀ L h' (led.flatten ++ (cells.map upd ++ fo)) := fun q hq => by
        rcases back q hq with ⟨hne, h⟩ | rfl
        · have := N.r.N q h
          exact ⟨(hs.2 q.1 hne).trans this.1, this.2⟩
        · exact ⟨ho', cL, hmem.2.2⟩
      refine hQ m (cells.map upd) _ ⟨N.a, ?_, N.lo, ?_, ⟨N.r.Z, F', N', N.r.D, ?_, N.r.R.monoI hI⟩, by rw [hmap]; exact N.c1, fun q hq => by rw [hmap]; exact N.c2 q hq, ?_, N.c4, ?_⟩ hI ((Sm.refl s).with h' _)
      · exact ⟨N.e.knd, N.e.gl, N.e.bl, N.e.frm, N.e.kin, N.e.cel, .inl ⟨N.lo, rfl⟩⟩
      · intro y v' e
        rw [lookup_setL] at e
        by_cases hy : y = x
        · subst hy
          rw [if_pos rfl] at e; cases e
          exact ⟨(fun h _ => by rw [hk] at h; cases h), fun _ => ⟨c, o', u, hc, List.mem_append.mpr (.inl new), hd', hv.monoI hI⟩⟩
        · rw [if_neg hy] at e
          refine ⟨fun h hd => ?_, fun h => ?_⟩
          · obtain ⟨u', h1, h2⟩ := (N.l y v' e).1 h hd
            exact ⟨u', h1, h2.monoI hI⟩
          · obtain ⟨c', o₁, u', h1, h2, h3, h4⟩ := (N.l y v' e).2 h
            refine ⟨c', o₁, u', h1, sub1 _ h2 fun q => hy (ofString_inj (N.c4 _ _ c' h1 ?_)), h3, h4.monoI hI⟩
            rw [show c' = c from q]; exact hc
      · intro q hq hin
        rcases back q (List.mem_append.mpr (.inr hq)) with ⟨_, h⟩ | rfl
        · rcases List.mem_append.mp h with h | h
          · rcases List.mem_append.mp hq with hq | hq
            · obtain ⟨q', hq', e⟩ := List.mem_map.mp hq
              have : q'.1 = q.1 := by rw [← e]; exact (updfst q').symm
              exact N.r.X q' (List.mem_append.mpr (.inl hq')) (this ▸ hin)
            · exact N.r.X q (List.mem_append.mpr (.inr hq)) hin
          · exact N.r.X q h hin
        · exact N.r.X (c, o) (List.mem_append.mpr (.inl hm)) hin
      · intro y hy
        obtain ⟨c', o₁, v₁, h1, h2, h3⟩ := N.c3 y hy
        by_cases hc' : c' = c
        · subst hc'; exact ⟨_, o', _, h1, new, hd'⟩
        · exact ⟨c', o₁, v₁, h1, List.mem_map.mpr ⟨_, h2, by show (if c' = c then (c, o') else (c', o₁)) = _; rw [if_neg hc']⟩, h3⟩
      · intro q hq
        obtain ⟨q', hq', e⟩ := List.mem_map.mp hq
        by_cases hc' : q'.1 = c
        · have : q = (c, o') := by rw [← e]; show (if q'.1 = c then (c, o') else q') = _; rw [if_pos hc']
          rw [this]; exact ⟨_, hd'⟩
        · have : q = q' := by rw [← e]; show (if q'.1 = c then (c, o') else q') = _; rw [if_neg hc']
          rw [this]; exact N.c5 q' hq'
    | free => simp [isW] at hx
    | globalExplicit => simp [isW] at hx
    | globalImplicit => simp [isW] at hx
end
end Mine

namespace Mine
open PySem PySem.W PySem.Calls PyProof.Rows PySem.SeqAt

/-- what is handed on behind a statement -/
def SPost (prog : Program) (w : World) (K : Frag) (p : Program) (loose : List Str) (mg mb : Str → Option Value) (n : Nat) (A : Around) (env : Env) (h₀ : Heap) (L : Addr) (led : Led) (fo : Frz) (s : Shared) (Qr : PF) (Q : Flow → Shared → Prop) : Prop :=
  ∀ fl flow loc' m' led' cells' fo' H' s', Qr fl loc' H' → FlRel K led' (cells' ++ fo') fl flow → SNow prog w K p loose mg mb n A env h₀ L m' led' cells' fo' loc' H' s' → Ext led led' → Sub fo fo' → Sm s s' → Q flow s'

section
variable (prog : Program) (w : World) (K : Frag) (G : RProg) (U : UTy) (p : Program) (loose : List Str) (mg mb : Str → Option Value) (n : Nat)
def StOk (st : Stmt) (r : RT) : Prop := ∀ {A : Around} {env : Env} {h₀ : Heap} {L : Addr} {m : Str → Option Value} {led : Led} {cells fo : Frz} {loc : Loc} {H : RH} {s : Shared} {E : Value → Shared → Prop} {Qr : PF} {Q : Flow → Shared → Prop},
  mtS env.scope.names st r = true → SNow prog w K p loose mg mb n A env h₀ L m led cells fo loc H s → wpS G U r loc H Qr → SPost prog w K p loose mg mb n A env h₀ L led fo s Qr Q → wpAny (model prog w) A (exec st env) Q E s
def SsOk (st : List Stmt) (r : List RT) : Prop := ∀ {A : Around} {env : Env} {h₀ : Heap} {L : Addr} {m : Str → Option Value} {led : Led} {cells fo : Frz} {loc : Loc} {H : RH} {s : Shared} {E : Value → Shared → Prop} {Qr : PF} {Q : Flow → Shared → Prop},
  mtSs env.scope.names st r = true → SNow prog w K p loose mg mb n A env h₀ L m led cells fo loc H s → wpSs G U r loc H Qr → SPost prog w K p loose mg mb n A env h₀ L led fo s Qr Q → wpAny (model prog w) A (execs st env) Q E s
end

section
variable {prog : Program} {w : World} {K : Frag} {G : RProg} {U : UTy} {p : Program} {loose : List Str} {mg mb : Str → Option Value} {n : Nat} {A : Around} {env : Env} {h₀ : Heap} {L : Addr} {m : Str → Option Value}
  {led led' : Led} {cells fo fo' : Frz} {loc : Loc} {H H' : RH} {s s' : Shared} {E : Value → Shared → Prop}

theorem SPost.after {Qr : PF} {Q : Flow → Shared → Prop} (hQ : SPost prog w K p loose mg mb n A env h₀ L led fo s Qr Q) (x : Ext led led') (y : Sub fo fo') (z : Sm s s') : SPost prog w K p loose mg mb n A env h₀ L led' fo' s' Qr Q :=
  fun fl flow loc₁ m₁ led₁ c₁ fo₁ H₁ s₁ q hf N x' y' z' => hQ fl flow loc₁ m₁ led₁ c₁ fo₁ H₁ s₁ q hf N (x.trans x') (y.trans y') (z.trans z')

theorem inter_false (N : SNow prog w K p loose mg mb n A env h₀ L m led cells fo loc H s) : interactive env = false := by
  unfold interactive
  rw [N.e.knd]; rfl

theorem swaps_plain {e : Expr} {t : Option Expr} {k : Nat} (h : plainVal e = true) : swapsWith e t k env = pure false := by
  cases e <;> first | rfl | (simp [plainVal] at h)

theorem st_expr {e : Expr} {r : RE} {pos : Pos} (h : EvOk prog w K G U p loose mg mb n e r) : StOk prog w K G U p loose mg mb n (.Expr e pos) (.expr r) := by
  intro A env h₀ L m led cells fo loc H s E Qr Q hm N hw hQ
  simp only [mtS_expr, Bool.and_eq_true] at hm
  rw [wpS_expr] at hw
  refine wpAny_Expr_any (evalS h hm.2 N hw ?_) (inter_false N) (swaps_plain hm.1)
  intro v u led₁ fo₁ H₁ s₁ q hv N' x y z
  exact hQ .next .next loc m led₁ cells fo₁ H₁ s₁ q .next N' x y z
theorem st_ret {e : Expr} {r : RE} {pos : Pos} (h : EvOk prog w K G U p loose mg mb n e r) : StOk prog w K G U p loose mg mb n (.Return (some e) pos) (.ret r) := by
  intro A env h₀ L m led cells fo loc H s E Qr Q hm N hw hQ
  rw [mtS_ret1] at hm
  rw [wpS_ret] at hw
  refine wpAny_Return_some (evalS h hm N hw ?_)
  intro v u led₁ fo₁ H₁ s₁ q hv N' x y z
  exact hQ _ _ loc m led₁ cells fo₁ H₁ s₁ q (.ret hv) N' x y z
theorem st_asg {e : Expr} {r : RE} {id : Str} {x : String} {np pos : Pos} (h : EvOk prog w K G U p loose mg mb n e r) (hc : plainVal e = true) : StOk prog w K G U p loose mg mb n (.Assign [.Name id np] e pos) (.asg x r) := by
  intro A env h₀ L m led cells fo loc H s E Qr Q hm N hw hQ
  simp only [mtS_asg1, Bool.and_eq_true] at hm
  rw [wpS_asg] at hw
  have e := eq_of_beq hm.1.2
  subst e
  refine wpAny_Assign_Name (evalS h hm.1.1 N hw ?_) (swaps_plain hc)
  intro v u led₁ fo₁ H₁ s₁ q hv N' x₁ y₁ z₁
  refine store_ok hm.2 N' hv ?_
  intro m' cells' s₂ N'' hI z₂
  exact hQ .next .next _ m' led₁ cells' fo₁ H₁ s₂ q .next N'' x₁ y₁ (z₁.trans z₂)
theorem st_ite {t : Expr} {t' : RE} {a b : List Stmt} {a' b' : List RT} {pos : Pos} (h0 : TsOk prog w K G U p loose mg mb n t t') (h1 : SsOk prog w K G U p loose mg mb n a a') (h2 : SsOk prog w K G U p loose mg mb n b b') :
    StOk prog w K G U p loose mg mb n (.If t a b pos) (.ite t' a' b') := by
  intro A env h₀ L m led cells fo loc H s E Qr Q hm N hw hQ
  simp only [mtS_ite, Bool.and_eq_true] at hm
  rw [wpS_ite] at hw
  refine wpAny_If (testS h0 hm.1.1 N hw ?_)
  intro c led₁ fo₁ H₁ s₁ q N' x y z
  cases c with
  | true => exact h1 hm.1.2 N' q (hQ.after x y z)
  | false => exact h2 hm.2 N' q (hQ.after x y z)
theorem ss_nil : SsOk prog w K G U p loose mg mb n [] [] := by
  intro A env h₀ L m led cells fo loc H s E Qr Q hm N hw hQ
  exact wpAny_pure (hQ _ _ loc m led cells fo H s hw .next N (Ext.refl _) (Sub.refl _) (Sm.refl _))
theorem ss_cons {st : Stmt} {ss : List Stmt} {r : RT} {rs : List RT} (h1 : StOk prog w K G U p loose mg mb n st r) (h2 : SsOk prog w K G U p loose mg mb n ss rs) : SsOk prog w K G U p loose mg mb n (st :: ss) (r :: rs) := by
  intro A env h₀ L m led cells fo loc H s E Qr Q hm N hw hQ
  simp only [mtSs_cons, Bool.and_eq_true] at hm
  rw [wpSs_cons] at hw
  show wpAny (model prog w) A (exec st env >>= fun f => match f with | .next => execs ss env | f => pure f) Q E s
  refine wpAny_bind (h1 hm.1 N hw ?_)
  intro fl flow loc₁ m₁ led₁ c₁ fo₁ H₁ s₁ q hf N' x y z
  cases hf with
  | next => exact h2 hm.2 N' q (hQ.after x y z)
  | ret hv => exact wpAny_pure (hQ _ _ loc₁ m₁ led₁ c₁ fo₁ H₁ s₁ q (.ret hv) N' x y z)

end
end Mine

namespace Mine
open PySem PySem.W PySem.Calls PyProof.Rows PySem.SeqAt

theorem lookup_zip_none {α β : Type} [BEq α] [LawfulBEq α] {x : α} : ∀ {xs : List α} {vs : List β}, x ∉ xs → (xs.zip vs).lookup x = none
  | [], _, _ => rfl
  | y :: xs, [], _ => rfl
  | y :: xs, v :: vs, h => by
    simp only [List.zip_cons_cons, List.lookup_cons]
    have : (x == y) = false := by
      cases hq : x == y with
      | false => rfl
      | true => exact absurd (eq_of_beq hq ▸ .head _) h
    rw [this]
    exact lookup_zip_none fun hm => h (.tail _ hm)
theorem lookup_zip_skip {α β : Type} [BEq α] [LawfulBEq α] {x : α} {l l' : List (α × β)} (h : l.lookup x = none) : (l ++ l').lookup x = l'.lookup x := by
  induction l with
  | nil => rfl
  | cons p l ih =>
    obtain ⟨y, v⟩ := p
    rw [List.cons_append, List.lookup_cons]
    rw [List.lookup_cons] at h
    cases hq : x == y with
    | true => rw [hq] at h; cases h
    | false => rw [hq] at h; exact ih h
theorem lookup_app_left {α β : Type} [BEq α] {x : α} {v : β} {l l' : List (α × β)} (h : l.lookup x = some v) : (l ++ l').lookup x = some v := by
  induction l with
  | nil => cases h
  | cons p l ih =>
    obtain ⟨y, u⟩ := p
    rw [List.cons_append, List.lookup_cons]
    rw [List.lookup_cons] at h
    cases hq : x == y with
    | true => rw [hq] at h; exact h
    | false => rw [hq] at h; exact ih h

/-- the step that fills in a default -/
def fillD (slots : List (Str × Value)) (q : Str × Value) : List (Str × Value) := if (slots.lookup q.1).isNone then slots ++ [q] else slots
/-- names that are there already are passed by, the others are put at the end -/
theorem fill_new : ∀ (qs slots : List (Str × Value)), (qs.map (·.1)).Nodup → (∀ q ∈ qs, slots.lookup q.1 = none) → qs.foldl fillD slots = slots ++ qs
  | [], slots, _, _ => by simp
  | q :: qs, slots, hn, h => by
    simp only [List.map_cons, List.nodup_cons] at hn
    rw [List.foldl_cons]
    have e : fillD slots q = slots ++ [q] := by unfold fillD; rw [h q (.head _)]; rfl
    rw [e, fill_new qs _ hn.2 fun q' hq' => ?_]
    · simp
    · rw [lookup_zip_skip (h q' (.tail _ hq'))]
      obtain ⟨y, v⟩ := q
      simp only [List.lookup_cons, List.lookup_nil]
      have : (q'.1 == y) = false := by
        cases hq : q'.1 == y with
        | false => rfl
        | true => exact absurd (List.mem_map.mpr ⟨q', hq', eq_of_beq hq⟩) hn.1
      rw [this]
theorem fill_old : ∀ (qs slots : List (Str × Value)), (∀ q ∈ qs, (slots.lookup q.1).isSome = true) → qs.foldl fillD slots = slots
  | [], _, _ => rfl
  | q :: qs, slots, h => by
    rw [List.foldl_cons]
    have e : fillD slots q = slots := by unfold fillD; rw [if_neg]; simp [Option.isNone_iff_eq_none, Option.isSome_iff_ne_none.mp (h q (.head _))]
    rw [e]; exact fill_old qs slots fun q' hq' => h q' (.tail _ hq')
theorem lookup_zip_at {α β : Type} [BEq α] [LawfulBEq α] : ∀ {xs : List α} {vs : List β} {j : Nat} {x : α} {v : β}, xs.Nodup → xs[j]? = some x → vs[j]? = some v → (xs.zip vs).lookup x = some v
  | [], _, _, _, _, _, h, _ => by simp at h
  | y :: xs, [], _, _, _, _, _, h => by simp at h
  | y :: xs, u :: vs, 0, x, v, _, h1, h2 => by
    simp at h1 h2; subst h1; subst h2
    simp [List.lookup_cons]
  | y :: xs, u :: vs, j + 1, x, v, hn, h1, h2 => by
    simp only [List.nodup_cons] at hn
    have hx : x ∈ xs := List.mem_of_getElem? (by simpa using h1)
    simp only [List.zip_cons_cons, List.lookup_cons]
    have : (x == y) = false := by
      cases hq : x == y with
      | false => rfl
      | true => exact absurd (eq_of_beq hq ▸ hx) hn.1
    rw [this]
    exact lookup_zip_at hn.2 (by simpa using h1) (by simpa using h2)
theorem filterMap_zip {ws : List Value} {slots : List (Str × Value)} : ∀ {xs : List Str}, xs.length = ws.length → (∀ (j : Nat) (x : Str) (v : Value), xs[j]? = some x → ws[j]? = some v → slots.lookup x = some v) → (xs.filterMap fun n => (slots.lookup n).map (n, ·)) = xs.zip ws := by
  induction ws with
  | nil =>
    intro xs hl _
    cases xs with
    | nil => rfl
    | cons x xs => simp at hl
  | cons v ws ih =>
    intro xs hl h
    cases xs with
    | nil => simp at hl
    | cons x xs =>
      rw [List.filterMap_cons, h 0 x v rfl rfl]
      simp only [Option.map_some, List.zip_cons_cons]
      rw [ih (by simpa using hl) fun j y u h1 h2 => h (j + 1) y u (by simpa using h1) (by simpa using h2)]

theorem forIn_fill {β : Type} (f : Str × Value → List (Str × Value) → Sem (ForInStep (List (Str × Value)))) (hf : ∀ q sl, f q sl = pure (.yield (fillD sl q))) : ∀ (qs slots : List (Str × Value)), forIn qs slots f = (pure (qs.foldl fillD slots) : Sem _)
  | [], slots => rfl
  | q :: qs, slots => by
    rw [List.forIn_cons, hf]
    exact forIn_fill (β := β) f hf qs (fillD slots q)

theorem zip_split {α β : Type} : ∀ (k : Nat) (xs : List α) (ds : List β), xs.zip ds = (xs.take k).zip (ds.take k) ++ (xs.drop k).zip (ds.drop k)
  | 0, xs, ds => by simp
  | k + 1, [], ds => by simp
  | k + 1, x :: xs, [] => by simp
  | k + 1, x :: xs, d :: ds => by simp [← zip_split k xs ds]
theorem zip_short {α β : Type} (xs : List α) (vs : List β) : xs.zip vs = (xs.take vs.length).zip vs := by
  have := zip_split vs.length xs vs
  simpa using this
theorem binds_ok {s : Shared} {fd : FuncData} {vals ds : List Value} (hp : fd.params.posonlyargs = []) (hva : fd.params.vararg = none) (hko : fd.params.kwonlyargs = []) (hkw : fd.params.kwarg = none)
    (hnd : (fd.params.args.map (·.arg)).Nodup) (hl : vals.length ≤ (fd.params.args.map (·.arg)).length) (hl2 : (fd.params.args.map (·.arg)).length ≤ vals.length + ds.length) (hl3 : ds.length ≤ (fd.params.args.map (·.arg)).length)
    (hd : ∀ (M : Model) (A : Around) (E : Value → Shared → Prop) (Q : Option (Array Value) → Shared → Prop), (∀ o, (o.getD #[]).toList = ds → Q o s) → wpAny M A (seqItems? fd.defaults) Q E s) :
    BindsTo s fd ⟨vals, []⟩ ((fd.params.args.map (·.arg)).zip (vals ++ ds.drop (ds.length - ((fd.params.args.map (·.arg)).length - vals.length)))) := by
  intro M A E Q hQ
  unfold bindArgs
  simp only [hp, hva, hko, hkw, List.map_nil, List.nil_append, List.append_nil, List.forIn_nil, pure_bind]
  refine wpAny_bind (hd _ _ _ _ fun o ho => ?_)
  simp only [ho]
  generalize hx : fd.params.args.map (·.arg) = xs at *
  have c1 : ¬ ((decide (vals.length > xs.length) && (none : Option Arg).isNone) = true) := by simp; omega
  rw [if_neg c1]
  have e0 : ds.length - xs.length = 0 := by omega
  rw [e0, List.drop_zero]
  have look : ∀ (j : Nat) (x : Str) (v : Value), xs[j]? = some x → vals[j]? = some v → (xs.zip vals).lookup x = some v := fun j x v h1 h2 => lookup_zip_at hnd h1 h2
  have c2 : ((xs.take (xs.length - ds.length)).filter fun n => ((xs.zip vals).lookup n).isNone) = [] := by
    rw [List.filter_eq_nil_iff]
    intro x hx'
    obtain ⟨j, hj, e⟩ := List.mem_iff_getElem.mp hx'
    rw [List.length_take] at hj
    have h1 : xs[j]? = some x := by rw [← e, List.getElem_take, List.getElem?_eq_getElem]
    have hjv : j < vals.length := by omega
    rw [look j x vals[j] h1 (List.getElem?_eq_getElem hjv)]
    simp
  rw [c2]
  simp only [List.isEmpty_nil, Bool.not_true, Bool.false_eq_true, if_false]
  rw [forIn_fill (β := Unit) _ (fun q sl => by unfold fillD; cases q; dsimp only; split <;> rfl)]
  show wpAny M A (pure _) Q E s
  refine wpAny_pure ?_
  -- the names that are given, then those that are filled in
  have split1 : (xs.drop (xs.length - ds.length)).zip ds = ((xs.drop (xs.length - ds.length)).take (vals.length - (xs.length - ds.length))).zip (ds.take (vals.length - (xs.length - ds.length))) ++ (xs.drop vals.length).zip (ds.drop (vals.length - (xs.length - ds.length))) := by
    have := zip_split (vals.length - (xs.length - ds.length)) (xs.drop (xs.length - ds.length)) ds
    rw [List.drop_drop, show xs.length - ds.length + (vals.length - (xs.length - ds.length)) = vals.length by omega] at this
    exact this
  have f1 : (((xs.drop (xs.length - ds.length)).take (vals.length - (xs.length - ds.length))).zip (ds.take (vals.length - (xs.length - ds.length)))).foldl fillD (xs.zip vals) = xs.zip vals := by
    apply fill_old
    intro q hq
    have hq1 := List.of_mem_zip (a := q.1) (b := q.2) hq
    obtain ⟨j, hj, e⟩ := List.mem_iff_getElem.mp hq1.1
    rw [List.length_take, List.length_drop] at hj
    have h1 : xs[xs.length - ds.length + j]? = some q.1 := by
      rw [← e, List.getElem_take, List.getElem_drop, List.getElem?_eq_getElem]
    have hjv : xs.length - ds.length + j < vals.length := by omega
    rw [look _ _ _ h1 (List.getElem?_eq_getElem hjv)]
    rfl
  have f2 : ((xs.drop vals.length).zip (ds.drop (vals.length - (xs.length - ds.length)))).foldl fillD (xs.zip vals) = xs.zip vals ++ (xs.drop vals.length).zip (ds.drop (vals.length - (xs.length - ds.length))) := by
    apply fill_new
    · have : (((xs.drop vals.length).zip (ds.drop (vals.length - (xs.length - ds.length)))).map (·.1)) = xs.drop vals.length := by
        rw [List.map_fst_zip]
        simp; omega
      rw [this]
      exact hnd.sublist (List.drop_sublist _ _)
    · intro q hq
      have hq1 := List.of_mem_zip (a := q.1) (b := q.2) hq
      have hne : q.1 ∉ xs.take vals.length := fun hm => by
        have hn2 : (xs.take vals.length ++ xs.drop vals.length).Nodup := by rw [List.take_append_drop]; exact hnd
        exact (List.nodup_append.mp hn2).2.2 _ hm _ hq1.1 rfl
      rw [zip_short]
      exact lookup_zip_none hne
  rw [split1, List.foldl_append, f1, f2]
  have e1 : ds.length - (xs.length - vals.length) = vals.length - (xs.length - ds.length) := by omega
  have e2 : xs.zip vals ++ (xs.drop vals.length).zip (ds.drop (vals.length - (xs.length - ds.length))) = xs.zip (vals ++ ds.drop (vals.length - (xs.length - ds.length))) := by
    have := zip_split vals.length xs (vals ++ ds.drop (vals.length - (xs.length - ds.length)))
    rw [this, List.take_left' rfl, List.drop_left' rfl, ← zip_short]
  rw [filterMap_zip (ws := vals ++ ds.drop (ds.length - (xs.length - vals.length)))]
  · exact hQ
  · simp; omega
  · intro j x v h1 h2
    rw [e2, ← e1]
    exact lookup_zip_at hnd h1 h2
end Mine

namespace Mine
open PySem PySem.W PySem.Calls PyProof.Rows PySem.SeqAt

theorem bindL_out {kindOf : Str → Option NameKind} {x : Str} : ∀ (binds : List (Str × Value)) (m : Str → Option Value), x ∉ binds.map (·.1) → bindL kindOf binds m x = m x
  | [], m, _ => rfl
  | (y, v) :: r, m, h => by
    simp only [List.map_cons, List.mem_cons, not_or] at h
    unfold bindL
    rw [bindL_out r _ h.2]
    split
    · show (if x = y then some v else m x) = m x
      rw [if_neg h.1]
    · rfl
theorem bindL_at {kindOf : Str → Option NameKind} {x : Str} {v : Value} : ∀ (binds : List (Str × Value)) (m : Str → Option Value), (binds.map (·.1)).Nodup → (x, v) ∈ binds → kindOf x = some .local → bindL kindOf binds m x = some v
  | [], m, _, h, _ => by cases h
  | (y, u) :: r, m, hn, h, hk => by
    simp only [List.map_cons, List.nodup_cons] at hn
    unfold bindL
    rcases List.mem_cons.mp h with e | h
    · cases e
      rw [bindL_out r _ hn.1, if_pos hk, if_pos rfl]
    · exact bindL_at r _ hn.2 h hk
theorem bindC_out {kindOf : Str → Option NameKind} {x : Str} : ∀ (binds : List (Str × Value)) (m : Str → Option Value), x ∉ binds.map (·.1) → bindC kindOf binds m x = m x
  | [], m, _ => rfl
  | (y, v) :: r, m, h => by
    simp only [List.map_cons, List.mem_cons, not_or] at h
    unfold bindC
    rw [bindC_out r _ h.2]
    split
    · rfl
    · show (if x = y then some v else m x) = m x
      rw [if_neg h.1]
theorem bindC_at {kindOf : Str → Option NameKind} {x : Str} {v : Value} : ∀ (binds : List (Str × Value)) (m : Str → Option Value), (binds.map (·.1)).Nodup → (x, v) ∈ binds → kindOf x = some .cell → bindC kindOf binds m x = some v
  | [], m, _, h, _ => by cases h
  | (y, u) :: r, m, hn, h, hk => by
    simp only [List.map_cons, List.nodup_cons] at hn
    unfold bindC
    rcases List.mem_cons.mp h with e | h
    · cases e
      have : ¬ kindOf x = some .local := by rw [hk]; intro e; cases e
      rw [bindC_out r _ hn.1, if_neg this, if_pos rfl]
    · exact bindC_at r _ hn.2 h hk

/-- the cells that a frame begins with -/
theorem cellsFrom_ge : ∀ (names : Ns) (k : Nat) (acc : List (Str × Addr)), (∀ q ∈ acc, q.2 < k) → (acc.map (·.2)).Nodup → (((cellsFrom k names acc).map (·.2)).Nodup ∧ ∀ q ∈ cellsFrom k names acc, q ∈ acc ∨ k ≤ q.2)
  | [], k, acc, h, hn => ⟨hn, fun q hq => .inl hq⟩
  | (x, kd) :: r, k, acc, h, hn => by
    unfold cellsFrom
    split
    · have := cellsFrom_ge r (k + 1) ((x, k) :: acc) (fun q hq => by
        rcases List.mem_cons.mp hq with rfl | hq
        · exact Nat.lt_succ_self _
        · exact Nat.lt_succ_of_lt (h q hq)) (by
        simp only [List.map_cons, List.nodup_cons]
        refine ⟨fun hm => ?_, hn⟩
        obtain ⟨q, hq, e⟩ := List.mem_map.mp hm
        exact Nat.lt_irrefl _ (e ▸ h q hq))
      refine ⟨this.1, fun q hq => ?_⟩
      rcases this.2 q hq with h1 | h1
      · rcases List.mem_cons.mp h1 with rfl | h1
        · exact .inr (Nat.le_refl _)
        · exact .inl h1
      · exact .inr (Nat.le_of_succ_le h1)
    · exact cellsFrom_ge r k acc h hn
theorem cellsFrom_ins : ∀ (names : Ns) (k : Nat) (acc : List (Str × Addr)), (cellsFrom k names acc).map (·.1) = ((names.filter fun q => q.2 == .cell).map (·.1)).reverse ++ acc.map (·.1)
  | [], k, acc => by simp [cellsFrom]
  | (x, kd) :: r, k, acc => by
    unfold cellsFrom
    split
    · rename_i h
      rw [cellsFrom_ins r]
      simp [h]
    · rename_i h
      rw [cellsFrom_ins r]
      simp [h]
theorem cellsAre_fst {cm : Str → Option Value} {cs : List (Str × Addr)} {cells : List (Addr × Obj)} (h : CellsAre cm cs cells) : cells.map (·.1) = cs.map (·.2) := by
  induction h with
  | nil => rfl
  | cons _ _ ih => simp [ih]
theorem cellsAre_at {cm : Str → Option Value} {cs : List (Str × Addr)} {cells : List (Addr × Obj)} (h : CellsAre cm cs cells) {x : Str} {c : Addr} (hm : (x, c) ∈ cs) : ∃ o, (c, o) ∈ cells ∧ o.data = .cell (cm x) := by
  induction h with
  | nil => cases hm
  | cons hd _ ih =>
    rcases List.mem_cons.mp hm with e | hm
    · cases e; exact ⟨_, .head _, hd⟩
    · obtain ⟨o, h1, h2⟩ := ih hm; exact ⟨o, .tail _ h1, h2⟩
theorem cellsAre_data {cm : Str → Option Value} {cs : List (Str × Addr)} {cells : List (Addr × Obj)} (h : CellsAre cm cs cells) : ∀ q ∈ cells, ∃ v, q.2.data = .cell v := by
  induction h with
  | nil => intro q hq; cases hq
  | cons hd _ ih =>
    intro q hq
    rcases List.mem_cons.mp hq with rfl | hq
    · exact ⟨_, hd⟩
    · exact ih q hq
theorem lookup_of_nodup {α β : Type} [BEq α] [LawfulBEq α] {x : α} {v : β} : ∀ {l : List (α × β)}, (l.map (·.1)).Nodup → (x, v) ∈ l → l.lookup x = some v
  | [], _, h => by cases h
  | (y, u) :: r, hn, h => by
    simp only [List.map_cons, List.nodup_cons] at hn
    rw [List.lookup_cons]
    rcases List.mem_cons.mp h with e | h
    · cases e; simp
    · have : (x == y) = false := by
        cases hq : x == y with
        | false => rfl
        | true => exact absurd (List.mem_map.mpr ⟨_, h, (eq_of_beq hq)⟩) hn.1
      rw [this]; exact lookup_of_nodup hn.2 h
theorem snd_inj {α β : Type} {x y : α} {v : β} {l : List (α × β)} (hn : (l.map (·.2)).Nodup) (h1 : (x, v) ∈ l) (h2 : (y, v) ∈ l) : x = y := by
  induction l with
  | nil => cases h1
  | cons q r ih =>
    obtain ⟨z, u⟩ := q
    simp only [List.map_cons, List.nodup_cons] at hn
    rcases List.mem_cons.mp h1 with e1 | k1 <;> rcases List.mem_cons.mp h2 with e2 | k2
    · cases e1; cases e2; rfl
    · cases e1; exact absurd (List.mem_map.mpr ⟨_, k2, rfl⟩) hn.1
    · cases e2; exact absurd (List.mem_map.mpr ⟨_, k1, rfl⟩) hn.1
    · exact ih hn.2 k1 k2
theorem nodup_rev {α : Type} : ∀ {l : List α}, l.Nodup → l.reverse.Nodup := fun {l} h => by
  unfold List.Nodup at *
  rw [List.pairwise_reverse]
  exact h.imp fun h e => h e.symm
theorem nodup_names : ∀ {l : List String}, l.Nodup → (l.map Str.ofString).Nodup
  | [], _ => .nil
  | x :: l, h => by
    simp only [List.nodup_cons, List.map_cons] at h ⊢
    refine ⟨fun hm => ?_, nodup_names h.2⟩
    obtain ⟨y, hy, e⟩ := List.mem_map.mp hm
    exact h.1 (ofString_inj e ▸ hy)
theorem zip_lookup {α β : Type} {x : String} {v : β} : ∀ {xs : List String} {vs : List β}, (xs.zip vs).lookup x = some v → ∃ j : Nat, xs[j]? = some x ∧ vs[j]? = some v
  | [], _, h => by simp at h
  | y :: xs, [], h => by simp at h
  | y :: xs, u :: vs, h => by
    simp only [List.zip_cons_cons, List.lookup_cons] at h
    cases hq : x == y with
    | true => rw [hq] at h; cases h; exact ⟨0, by rw [eq_of_beq hq]; rfl, rfl⟩
    | false =>
      rw [hq] at h
      obtain ⟨j, h1, h2⟩ := zip_lookup (α := α) h
      exact ⟨j + 1, by simpa using h1, by simpa using h2⟩
theorem zip_mem {α β : Type} {x : α} {v : β} {xs : List α} {vs : List β} {j : Nat} (h1 : xs[j]? = some x) (h2 : vs[j]? = some v) : (x, v) ∈ xs.zip vs := by
  have : (xs.zip vs)[j]? = some (x, v) := by
    rw [List.getElem?_zip_eq_some]; exact ⟨h1, h2⟩
  exact List.mem_of_getElem? this
theorem VsRel.drop {K : Frag} {led : Led} {fr : Frz} : ∀ (k : Nat) {us : List RV} {vs : List Value}, VsRel K led fr us vs → VsRel K led fr (us.drop k) (vs.drop k)
  | 0, _, _, h => h
  | k + 1, _, _, .nil => .nil
  | k + 1, _, _, .cons _ r => VsRel.drop k r

section
variable {prog : Program} {w : World} {K : Frag} {G : RProg} {p : Program} {loose : List Str} {mg mb : Str → Option Value} {n : Nat}
theorem uok_succ (hS : ∀ ss rs, SsOk prog w K G (callU G n) p loose mg mb n ss rs) : UOk prog w K p loose mg mb (callU G (n + 1)) (n + 1) := by
  intro A fenv h₀ L mF led fr H s Qr R d f qual args vals a hm hv r hw hQ
  unfold mtFn at hm
  split at hm
  · rename_i c od fd osl hK
    simp only [Bool.and_eq_true, decide_eq_true_eq] at hm
    obtain ⟨⟨⟨⟨⟨⟨⟨⟨⟨⟨⟨⟨⟨⟨⟨⟨⟨⟨⟨⟨hgl, hcl⟩, hbl⟩, hqn⟩, hcd⟩, hgen⟩, hcor⟩, hkd⟩, hnn⟩, hfree⟩, hpo⟩, hva⟩, hko⟩, hkw⟩, hpar⟩, hpw⟩, hpn⟩, hdl⟩, hdf⟩, hkd2⟩, hbody⟩ := hm
    have hgl := eq_of_beq hgl
    have hcl : fd.closure = [] := by simpa using hcl
    have hbl := eq_of_beq hbl
    have hqn := eq_of_beq hqn
    have hgen : fd.scope.isGenerator = false := by simpa using hgen
    have hcor : fd.scope.isCoroutine = false := by simpa using hcor
    have hkd := eq_of_beq hkd
    have hpo : fd.params.posonlyargs = [] := by simpa using hpo
    have hva : fd.params.vararg = none := by simpa using hva
    have hko : fd.params.kwonlyargs = [] := by simpa using hko
    have hkw : fd.params.kwarg = none := by simpa using hkw
    have hpar := eq_of_beq hpar
    split at hbody
    · rename_i b hb
      have hfd : fd = fnX fd.name fd.qualname fd.params b fd.scope [] fd.defaults fd.kwdefaults fd.doc fd.pyModule fd.annotations fd.code fd.closureTuple := by
        cases fd; simp_all
      simp only [callU] at hw
      split at hw
      · rename_i loc hloc
        unfold bindR at hloc
        split at hloc
        · rename_i hlen
          cases hloc
          obtain ⟨A₀, base, outer, hB, hA⟩ := a.bel
          have Xs : K.In s.heap := a.X.keeps r.F.keep
          -- the defaults
          obtain ⟨ds, hds, hdl', hrd⟩ : ∃ ds : List Value, VsRel K led fr d.dflts ds ∧ ds.length = d.dflts.length ∧
              ∀ (M : Model) (A : Around) (E : Value → Shared → Prop) (Q : Option (Array Value) → Shared → Prop), (∀ o, (o.getD #[]).toList = ds → Q o s) → wpAny M A (seqItems? fd.defaults) Q E s := by
            split at hdf
            · rename_i hdn
              have : d.dflts = [] := by simpa using hdf
              rw [this, hdn]
              exact ⟨[], .nil, rfl, fun M A E Q hq => wpAny_of_eq (show seqItems? Value.none = pure none from rfl) (hq none rfl)⟩
            · rename_i t ht
              split at hdf
              · rename_i cc vs' k' sl' hKt
                simp only [Bool.and_eq_true, decide_eq_true_eq] at hdf
                refine ⟨vs'.toList, VsRel_of_mtV _ _ hdf.1.2 hdf.2, hdf.1.2, fun M A E Q hq => ?_⟩
                rw [ht]
                exact wpAny_seqItems (Xs _ _ hKt) rfl (hq _ rfl)
              · cases hdf
            · cases hdf
          have hargs := hv.length
          have hnames : (fd.params.args.map (·.arg)).length = d.params.length := by rw [hpar, List.length_map]
          have hndn : (fd.params.args.map (·.arg)).Nodup := by
            rw [hpar]
            exact nodup_names hpn
          have hall := hv.append (hds.drop (d.dflts.length - (d.params.length - args.length)))
          have hbinds := binds_ok (s := s) (fd := fd) (vals := vals) (ds := ds) hpo hva hko hkw hndn (by rw [hnames, ← hargs]; exact hlen.1) (by rw [hnames, hdl', ← hargs]; exact hlen.2) (by rw [hnames, hdl']; exact hdl) hrd
          rw [hnames, hdl', ← hargs] at hbinds
          generalize hbn : (fd.params.args.map (·.arg)).zip (vals ++ ds.drop (d.dflts.length - (d.params.length - args.length))) = binds at hbinds
          have hws : (vals ++ ds.drop (d.dflts.length - (d.params.length - args.length))).length = d.params.length := by
            rw [List.length_append, List.length_drop, hdl', ← hargs]; have := hlen.1; have := hlen.2; omega
          have hbf : binds.map (·.1) = fd.params.args.map (·.arg) := by
            rw [← hbn, List.map_fst_zip]; rw [hnames, hws]; exact Nat.le_refl _
          have hbnd : (binds.map (·.1)).Nodup := by rw [hbf]; exact hndn
          have hkinds : ∀ x ∈ binds, isW (fd.scope.names.lookup x.1) = true := fun x hx => by
            have : x.1 ∈ fd.params.args.map (·.arg) := hbf ▸ List.mem_map_of_mem hx
            obtain ⟨q, hq, e⟩ := List.mem_map.mp this
            rw [← e]
            exact List.all_eq_true.mp hpw q hq
          have cellName : ∀ x, fd.scope.names.lookup x = some .cell → ∀ k, ∃ c, (cellsFrom k fd.scope.names []).lookup x = some c := fun x hx k => by
            have := cellsFrom_some fd.scope.names k [] (.inl hx)
            exact Option.isSome_iff_exists.mp this
          have cellFst : ∀ k, ((cellsFrom k fd.scope.names []).map (·.1)).Nodup := fun k => by
            rw [cellsFrom_ins]
            simp only [List.map_nil, List.append_nil]
            refine nodup_rev ?_
            exact hnn.sublist (List.Sublist.map _ List.filter_sublist)
          rw [hfd] at hK hbinds
          refine callX_cells hB r.F r.N a.T.nolimit hA a.frm a.knd (Xs _ _ hK) rfl (codeRec_of Xs hcd) (by have := a.dep; omega) hbinds (fun k x hx => ?_) (cellFst 0) ?_ hcor hgen hkd
          · have hk := hkinds x hx
            simp only [isW, Bool.or_eq_true, beq_iff_eq] at hk
            rcases hk with hk | hk
            · exact .inl hk
            · obtain ⟨c, hc⟩ := cellName _ hk k
              exact .inr ⟨hk, by rw [hc]; rfl⟩
          · intro g L' h₁ tk cells FG F' N' CA B' st hlt
            have cge := cellsFrom_ge fd.scope.names (L' + 1) [] (fun q hq => by cases hq) .nil
            have cmem : ∀ x c, (cellsFrom (L' + 1) fd.scope.names []).lookup x = some c → (x, c) ∈ cellsFrom (L' + 1) fd.scope.names [] := fun x c e => lookup_mem e
            have cbig : ∀ q ∈ cells, L' < q.1 := fun q hq => by
              have : q.1 ∈ (cellsFrom (L' + 1) fd.scope.names []).map (·.2) := by rw [← cellsAre_fst CA]; exact List.mem_map_of_mem hq
              obtain ⟨z, hz, e⟩ := List.mem_map.mp this
              rcases cge.2 z hz with h | h
              · cases h
              · rw [← e]; exact h
            have kindEq : ∀ x, (envOfC fd.qualname fd.scope L' f fd.code).kindOf x = fd.scope.names.lookup x := fun x => rfl
            have hAct : Act prog K p loose mg mb (A.deeper (envOfC fd.qualname fd.scope L' f fd.code)) (envOfC fd.qualname fd.scope L' f fd.code) g L' n :=
              ⟨⟨A, base, fenv :: outer, B', Around.frames_deeper B'.stack⟩, rfl, hkd, hgen, hcor, rfl, rfl, a.X.keeps st, a.T.keeps st, a.sr.keeps st, a.tr, a.hd,
                by have := a.dep; show A.depth + 1 + 10 * n + 115 + 5 < _; omega, by have := a.uni; show A.units + 3 + 40 * n + 195 + 5 < _; omega⟩
            have hfr : Sub fr (cells ++ fr) := fun q hq => List.mem_append.mpr (.inr hq)
            have NW : SNow prog w K p loose mg mb n (A.deeper (envOfC fd.qualname fd.scope L' f fd.code)) (envOfC fd.qualname fd.scope L' f fd.code) g L' (bindL (envOfC fd.qualname fd.scope L' f fd.code).kindOf binds fun _ => none) led cells fr
                (d.params.zip (args ++ d.dflts.drop (d.dflts.length - (d.params.length - args.length)))) H { s with heap := h₁, toks := tk } := by
              refine ⟨hAct, ⟨hkd, rfl, rfl, rfl, fun x k h => .inl h, fun x hx => ?_, .inl ⟨rfl, rfl⟩⟩, rfl, ?_, ⟨r.Z, F', ?_, r.D, ?_, r.R.mono hfr⟩, ?_, ?_, ?_, ?_, cellsAre_data CA⟩
              · rcases hx with hx | hx
                · exact cellName x hx (L' + 1)
                · have := List.all_eq_true.mp hfree (x, .free) (lookup_mem hx)
                  simp at this
              · intro x v hx
                obtain ⟨j, h1, h2⟩ := zip_lookup (α := Unit) hx
                obtain ⟨u, hu, hvr⟩ := hall.get j v h2
                have hmem : (Str.ofString x, u) ∈ binds := by
                  rw [← hbn, hpar]
                  exact zip_mem (by rw [List.getElem?_map, h1]; rfl) hu
                refine ⟨fun hk _ => ⟨u, bindL_at binds _ hbnd hmem hk, hvr.mono (Ext.refl _) hfr⟩, fun hk => ?_⟩
                have hk : (envOfC fd.qualname fd.scope L' f fd.code).kindOf (Str.ofString x) = some .cell := by
                  rcases hk with hk | hk
                  · exact hk
                  · have := List.all_eq_true.mp hfree (Str.ofString x, .free) (lookup_mem hk)
                    simp at this
                obtain ⟨c, hc⟩ := cellName _ hk (L' + 1)
                obtain ⟨o, ho, hod⟩ := cellsAre_at CA (cmem _ _ hc)
                refine ⟨c, o, u, hc, List.mem_append.mpr (.inl ho), ?_, hvr.mono (Ext.refl _) hfr⟩
                rw [hod, bindC_at binds _ hbnd hmem hk]
              · intro q hq
                rcases List.mem_append.mp hq with h | h
                · exact N' q (List.mem_append.mpr (.inr (List.mem_append.mpr (.inl h))))
                · rcases List.mem_append.mp h with h | h
                  · exact N' q (List.mem_append.mpr (.inl h))
                  · exact N' q (List.mem_append.mpr (.inr (List.mem_append.mpr (.inr h))))
              · intro q hq hin
                rcases List.mem_append.mp hq with h | h
                · obtain ⟨z, hz, e⟩ := List.mem_map.mp hin
                  have h1 := hlt z (List.mem_append.mpr (.inl hz))
                  have h2 := cbig q h
                  rw [e] at h1; exact absurd h1 (Nat.not_lt.mpr (Nat.le_of_lt h2))
                · exact r.X q h hin
              · rw [cellsAre_fst CA]; exact cge.1
              · intro q hq hin
                obtain ⟨z, hz, e⟩ := List.mem_map.mp hin
                have h1 := hlt q (List.mem_append.mpr (.inr hq))
                have h2 := cbig z hz
                rw [e] at h2; exact absurd h1 (Nat.not_lt.mpr (Nat.le_of_lt h2))
              · intro x hx
                obtain ⟨c, hc⟩ := cellName x hx (L' + 1)
                obtain ⟨o, ho, hod⟩ := cellsAre_at CA (cmem _ _ hc)
                exact ⟨c, o, _, hc, ho, hod⟩
              · intro x y c h1 h2
                exact snd_inj cge.1 (cmem _ _ h1) (cmem _ _ h2)
            refine hS b d.body hbody NW hw ?_
            intro fl flow loc' m' led₁ cells₁ fo₁ H₁ s₁ q hf N₁ x y z
            refine leaveK_ (news' := led₁.flatten ++ fo₁) N₁.r.F (fun q hq => N₁.r.N q (by
              rcases List.mem_append.mp hq with h | h
              · exact List.mem_append.mpr (.inl h)
              · exact List.mem_append.mpr (.inr (List.mem_append.mpr (.inr h))))) fun kF kN => ?_
            have hI : SubI K (cells₁ ++ fo₁) fo₁ := fun a' o hne _ i => by
              rcases i with i | i
              · rcases List.mem_append.mp i with i | i
                · obtain ⟨v, e⟩ := N₁.c5 _ i
                  exact absurd e (hne v)
                · exact .inl i
              · exact .inr i
            have R₁ : Rel w.params K h₀ L mF led₁ fo₁ H₁ s₁ := ⟨N₁.r.Z, kF, kN, N₁.r.D, fun q hq => N₁.r.X q (List.mem_append.mpr (.inr hq)), N₁.r.R.monoI hI⟩
            have Z : Sm s s₁ := Sm.trans ((Sm.refl s).with h₁ tk) z
            cases hf with
            | next => exact hQ .none .none led₁ fo₁ H₁ s₁ q .none R₁ x y Z
            | ret hv' => exact hQ _ _ led₁ fo₁ H₁ s₁ q (hv'.monoI hI) R₁ x y Z
        · cases hloc
      · exact hw.elim
    · cases hbody
  · cases hm
end
end Mine

namespace Mine
open PySem PySem.W PySem.Calls PyProof.Rows PySem.SeqAt

theorem sub_cells {cells fo fo' : Frz} (y : Sub fo fo') : Sub (cells ++ fo) (cells ++ fo') := fun q hq => by
  rcases List.mem_append.mp hq with h | h
  · exact List.mem_append.mpr (.inl h)
  · exact List.mem_append.mpr (.inr (y q h))
section
variable {prog : Program} {w : World} {K : Frag} {G : RProg} {U : UTy} {p : Program} {loose : List Str} {mg mb : Str → Option Value} {n : Nat} {A : Around} {env : Env} {h₀ : Heap} {L : Addr} {m : Str → Option Value}
  {led led' : Led} {cells fo fo' : Frz} {loc : Loc} {H H' : RH} {s s' : Shared} {E : Value → Shared → Prop}

/-- such a thing turns -/
theorem SNow.swap (N : SNow prog w K p loose mg mb n A env h₀ L m led cells fo loc H s) {I : Addr} {o o' : Obj} (hI : (I, o) ∈ fo) (hq : quiet o)
    (hk : ∀ b x, b ≠ I → s.heap.get? b = some x → s'.heap.get? b = some x) (ho' : s'.heap.get? I = some o') :
    SNow prog w K p loose mg mb n A env h₀ L m led cells ((I, o') :: without I fo) loc H s' ∧ SubI K (cells ++ fo) (cells ++ ((I, o') :: without I fo)) := by
  have zI := N.r.N (I, o) (List.mem_append.mpr (.inr (List.mem_append.mpr (.inr hI))))
  have nl : I ∉ led.flatten.map (·.1) := N.r.X (I, o) (List.mem_append.mpr (.inr hI))
  have nc : I ∉ cells.map (·.1) := N.c2 (I, o) hI
  have hS : SubI K (cells ++ fo) (cells ++ ((I, o') :: without I fo)) := fun a x _ hc i => by
    rcases i with i | i
    · rcases List.mem_append.mp i with h | h
      · exact .inl (List.mem_append.mpr (.inl h))
      · by_cases ha : a = I
        · subst ha
          have := (N.r.N (a, x) (List.mem_append.mpr (.inr (List.mem_append.mpr (.inr h))))).1
          have e : x = o := Option.some.inj (this.symm.trans zI.1)
          subst e
          exact (hq.not hc).elim
        · exact .inl (List.mem_append.mpr (.inr (.tail _ (without_mem.mpr ⟨h, ha⟩))))
    · exact .inr i
  have F' : Fr h₀ L s'.heap m := by
    obtain ⟨oL, es, ep, hL, r1⟩ := N.r.F.ns
    refine ⟨⟨oL, es, ep, hk L oL (fun e => zI.2.1 e.symm) hL, r1⟩, fun b x e => hk b x (fun q => ?_) (N.r.F.keep b x e), N.r.F.above⟩
    rw [q, zI.2.2] at e; cases e
  have N' : News h₀ L s'.heap (led.flatten ++ (cells ++ ((I, o') :: without I fo))) := by
    intro q hq
    have old : ∀ q, q ∈ led.flatten ++ (cells ++ fo) → q.1 ≠ I → s'.heap.get? q.1 = some q.2 ∧ q.1 ≠ L ∧ h₀.get? q.1 = none := fun q hq hne =>
      ⟨hk _ _ hne (N.r.N q hq).1, (N.r.N q hq).2⟩
    rcases List.mem_append.mp hq with h | h
    · exact old q (List.mem_append.mpr (.inl h)) fun e => nl (e ▸ List.mem_map_of_mem h)
    · rcases List.mem_append.mp h with h | h
      · exact old q (List.mem_append.mpr (.inr (List.mem_append.mpr (.inl h)))) fun e => nc (e ▸ List.mem_map_of_mem h)
      · rcases List.mem_cons.mp h with rfl | h
        · exact ⟨ho', zI.2⟩
        · have := without_mem.mp h
          exact old q (List.mem_append.mpr (.inr (List.mem_append.mpr (.inr this.1)))) this.2
  have X' : ∀ q ∈ cells ++ ((I, o') :: without I fo), q.1 ∉ led.flatten.map (·.1) := fun q hq => by
    rcases List.mem_append.mp hq with h | h
    · exact N.r.X q (List.mem_append.mpr (.inl h))
    · rcases List.mem_cons.mp h with rfl | h
      · exact nl
      · exact N.r.X q (List.mem_append.mpr (.inr (without_mem.mp h).1))
  refine ⟨⟨N.a, ⟨N.e.knd, N.e.gl, N.e.bl, N.e.frm, N.e.kin, N.e.cel, ?_⟩, N.lo, ?_, ⟨N.r.Z, F', N', N.r.D, X', N.r.R.monoI hS⟩, N.c1, ?_, N.c3, N.c4, N.c5⟩, hS⟩
  · exact .inl ⟨N.lo, rfl⟩
  · intro x v hx
    obtain ⟨l1, l2⟩ := N.l x v hx
    refine ⟨fun hk' hd' => ?_, fun hk' => ?_⟩
    · obtain ⟨u, a, b⟩ := l1 hk' hd'; exact ⟨u, a, b.monoI hS⟩
    · obtain ⟨c, oc, u, a, b, d, e⟩ := l2 hk'
      refine ⟨c, oc, u, a, ?_, d, e.monoI hS⟩
      rcases List.mem_append.mp b with h | h
      · exact List.mem_append.mpr (.inl h)
      · by_cases hc : c = I
        · subst hc
          have := (N.r.N (c, oc) (List.mem_append.mpr (.inr (List.mem_append.mpr (.inr h))))).1
          have e2 : oc = o := Option.some.inj (this.symm.trans zI.1)
          subst e2
          exact absurd d (hq.2 _)
        · exact List.mem_append.mpr (.inr (.tail _ (without_mem.mpr ⟨h, hc⟩)))
  · intro q hq
    rcases List.mem_cons.mp hq with rfl | h
    · exact nc
    · exact N.c2 q (without_mem.mp h).1

/-- such a thing is let go of -/
theorem SNow.drop (N : SNow prog w K p loose mg mb n A env h₀ L m led cells fo loc H s) {I : Addr} {o : Obj} (hI : (I, o) ∈ fo) (hq : quiet o)
    (hk : ∀ b x, b ≠ I → s.heap.get? b = some x → s'.heap.get? b = some x) :
    SNow prog w K p loose mg mb n A env h₀ L m led cells (without I fo) loc H s' := by
  have zI := N.r.N (I, o) (List.mem_append.mpr (.inr (List.mem_append.mpr (.inr hI))))
  have nl : I ∉ led.flatten.map (·.1) := N.r.X (I, o) (List.mem_append.mpr (.inr hI))
  have nc : I ∉ cells.map (·.1) := N.c2 (I, o) hI
  have hS : SubI K (cells ++ fo) (cells ++ (without I fo)) := fun a x _ hc i => by
    rcases i with i | i
    · rcases List.mem_append.mp i with h | h
      · exact .inl (List.mem_append.mpr (.inl h))
      · by_cases ha : a = I
        · subst ha
          have := (N.r.N (a, x) (List.mem_append.mpr (.inr (List.mem_append.mpr (.inr h))))).1
          have e : x = o := Option.some.inj (this.symm.trans zI.1)
          subst e
          exact (hq.not hc).elim
        · exact .inl (List.mem_append.mpr (.inr ((without_mem.mpr ⟨h, ha⟩))))
    · exact .inr i
  have F' : Fr h₀ L s'.heap m := by
    obtain ⟨oL, es, ep, hL, r1⟩ := N.r.F.ns
    refine ⟨⟨oL, es, ep, hk L oL (fun e => zI.2.1 e.symm) hL, r1⟩, fun b x e => hk b x (fun q => ?_) (N.r.F.keep b x e), N.r.F.above⟩
    rw [q, zI.2.2] at e; cases e
  have N' : News h₀ L s'.heap (led.flatten ++ (cells ++ (without I fo))) := by
    intro q hq
    have old : ∀ q, q ∈ led.flatten ++ (cells ++ fo) → q.1 ≠ I → s'.heap.get? q.1 = some q.2 ∧ q.1 ≠ L ∧ h₀.get? q.1 = none := fun q hq hne =>
      ⟨hk _ _ hne (N.r.N q hq).1, (N.r.N q hq).2⟩
    rcases List.mem_append.mp hq with h | h
    · exact old q (List.mem_append.mpr (.inl h)) fun e => nl (e ▸ List.mem_map_of_mem h)
    · rcases List.mem_append.mp h with h | h
      · exact old q (List.mem_append.mpr (.inr (List.mem_append.mpr (.inl h)))) fun e => nc (e ▸ List.mem_map_of_mem h)
      · · have := without_mem.mp h
          exact old q (List.mem_append.mpr (.inr (List.mem_append.mpr (.inr this.1)))) this.2
  have X' : ∀ q ∈ cells ++ (without I fo), q.1 ∉ led.flatten.map (·.1) := fun q hq => by
    rcases List.mem_append.mp hq with h | h
    · exact N.r.X q (List.mem_append.mpr (.inl h))
    · · exact N.r.X q (List.mem_append.mpr (.inr (without_mem.mp h).1))
  refine ⟨N.a, ⟨N.e.knd, N.e.gl, N.e.bl, N.e.frm, N.e.kin, N.e.cel, ?_⟩, N.lo, ?_, ⟨N.r.Z, F', N', N.r.D, X', N.r.R.monoI hS⟩, N.c1, ?_, N.c3, N.c4, N.c5⟩
  · exact .inl ⟨N.lo, rfl⟩
  · intro x v hx
    obtain ⟨l1, l2⟩ := N.l x v hx
    refine ⟨fun hk' hd' => ?_, fun hk' => ?_⟩
    · obtain ⟨u, a, b⟩ := l1 hk' hd'; exact ⟨u, a, b.monoI hS⟩
    · obtain ⟨c, oc, u, a, b, d, e⟩ := l2 hk'
      refine ⟨c, oc, u, a, ?_, d, e.monoI hS⟩
      rcases List.mem_append.mp b with h | h
      · exact List.mem_append.mpr (.inl h)
      · by_cases hc : c = I
        · subst hc
          have := (N.r.N (c, oc) (List.mem_append.mpr (.inr (List.mem_append.mpr (.inr h))))).1
          have e2 : oc = o := Option.some.inj (this.symm.trans zI.1)
          subst e2
          exact absurd d (hq.2 _)
        · exact List.mem_append.mpr (.inr ((without_mem.mpr ⟨h, hc⟩)))
  · intro q hq
    exact N.c2 q (without_mem.mp hq).1

/-- a new thing of that kind is laid -/
theorem SNow.lay (N : SNow prog w K p loose mg mb n A env h₀ L m led cells fo loc H s) {o : Obj} (hf : o.isFreed = false) :
    SNow prog w K p loose mg mb n A env h₀ L m led cells ((s.heap.objs.size, o) :: fo) loc H { s with heap := s.heap.push o } := by
  have hfr := N.r.fresh
  have hS : Sub (cells ++ fo) (cells ++ ((s.heap.objs.size, o) :: fo)) := fun q hq => by
    rcases List.mem_append.mp hq with h | h
    · exact List.mem_append.mpr (.inl h)
    · exact List.mem_append.mpr (.inr (.tail _ h))
  simp only [List.map_append, List.mem_append, not_or] at hfr
  refine ⟨N.a, N.e.mono hS, N.lo, N.l.mono (Ext.refl _) hS, ⟨N.r.Z, N.r.F.push o, ?_, N.r.D, ?_, N.r.R.mono hS⟩, N.c1, ?_, N.c3, N.c4, N.c5⟩
  · have N' := News.push N.r.F N.r.N o hf
    intro q hq
    rcases List.mem_append.mp hq with h | h
    · exact N' q (.tail _ (List.mem_append.mpr (.inl h)))
    · rcases List.mem_append.mp h with h | h
      · exact N' q (.tail _ (List.mem_append.mpr (.inr (List.mem_append.mpr (.inl h)))))
      · rcases List.mem_cons.mp h with rfl | h
        · exact N' _ (.head _)
        · exact N' q (.tail _ (List.mem_append.mpr (.inr (List.mem_append.mpr (.inr h)))))
  · intro q hq
    rcases List.mem_append.mp hq with h | h
    · exact N.r.X q (List.mem_append.mpr (.inl h))
    · rcases List.mem_cons.mp h with rfl | h
      · exact hfr.1
      · exact N.r.X q (List.mem_append.mpr (.inr h))
  · intro q hq
    rcases List.mem_cons.mp hq with rfl | h
    · exact hfr.2.1
    · exact N.c2 q h
end
end Mine

namespace Mine
open PySem PySem.W PySem.Calls PyProof.Rows PySem.SeqAt

section
variable {prog : Program} {w : World} {K : Frag} {G : RProg} {U : UTy} {p : Program} {loose : List Str} {mg mb : Str → Option Value} {n : Nat} {A : Around} {env : Env} {h₀ : Heap} {L : Addr} {m : Str → Option Value}
  {led led' : Led} {cells fo fo' : Frz} {loc : Loc} {H H' : RH} {s s' : Shared} {E : Value → Shared → Prop}

theorem next_item (N : SNow prog w K p loose mg mb n A env h₀ L m led cells fo loc H s) {I : Addr} {o : Obj} {src : RV} {u : Value} {i : Nat} {l : List RV} {v : RV} {Q : Option Value → Shared → Prop}
    (hI : (I, o) ∈ fo) (hs : VRel K led (cells ++ fo) src u) (hit : ItAt src u i o) (hp : placed H src) (hl : itemsR H src = some l) (hv : l[i]? = some v)
    (hQ : ∀ u' o' s', VRel K led (cells ++ ((I, o') :: without I fo)) v u' → VRel K led (cells ++ ((I, o') :: without I fo)) src u → ItAt src u (i + 1) o' → SNow prog w K p loose mg mb n A env h₀ L m led cells ((I, o') :: without I fo) loc H s' → Sm s s' → Q (some u') s') :
    wpAny (model prog w) A (pyNext (.ref I)) Q E s := by
  have gI : s.heap.get? I = some o := N.r.at (List.mem_append.mpr (.inr (List.mem_append.mpr (.inr hI))))
  refine next_raw N.a.X N.r gI hs hit hp hl hv fun u' o' s' hr hi hk g z => ?_
  obtain ⟨N', hS⟩ := N.swap hI hit.quiet hk g
  exact hQ u' o' s' (hr.monoI hS) (hs.monoI hS) hi N' z

theorem next_end (N : SNow prog w K p loose mg mb n A env h₀ L m led cells fo loc H s) {I : Addr} {o : Obj} {src : RV} {u : Value} {i : Nat} {l : List RV} {Q : Option Value → Shared → Prop}
    (hI : (I, o) ∈ fo) (hs : VRel K led (cells ++ fo) src u) (hit : ItAt src u i o) (hp : placed H src) (hl : itemsR H src = some l) (hv : l.length = i)
    (hQ : ∀ s', SNow prog w K p loose mg mb n A env h₀ L m led cells (without I fo) loc H s' → Sm s s' → Q none s') :
    wpAny (model prog w) A (pyNext (.ref I)) Q E s := by
  have gI : s.heap.get? I = some o := N.r.at (List.mem_append.mpr (.inr (List.mem_append.mpr (.inr hI))))
  exact end_raw N.a.X N.a.hd N.r gI hs hit hp hl hv fun s' hk z => hQ s' (N.drop hI hit.quiet hk) z
end
end Mine

namespace Mine
open PySem PySem.W PySem.Calls PyProof.Rows PySem.SeqAt

section
variable {prog : Program} {w : World} {K : Frag} {G : RProg} {U : UTy} {p : Program} {loose : List Str} {mg mb : Str → Option Value} {n : Nat}

theorem iter_ok {A : Around} {env : Env} {h₀ : Heap} {L : Addr} {m : Str → Option Value} {led : Led} {cells fo : Frz} {loc : Loc} {H : RH} {s : Shared} {E : Value → Shared → Prop} {src : RV} {u : Value} {Q : Value → Shared → Prop}
    (N : SNow prog w K p loose mg mb n A env h₀ L m led cells fo loc H s) (hs : VRel K led (cells ++ fo) src u) (hp : placedB H src = true)
    (hQ : ∀ I o s', SNow prog w K p loose mg mb n A env h₀ L m led cells ((I, o) :: fo) loc H s' → ItAt src u 0 o → (∀ q ∈ fo, q.1 ≠ I) → Sm s s' → Q (.ref I) s') : wpAny (model prog w) A (pyIter u) Q E s := by
  have fresh : ∀ q ∈ fo, q.1 ≠ s.heap.objs.size := fun q hq e => N.r.fresh (e ▸ List.mem_map_of_mem (List.mem_append.mpr (.inr (List.mem_append.mpr (.inr hq)))))
  exact iter_raw N.a.X N.r hs hp fun o hf hi => hQ _ o _ (N.lay hf) hi fresh ((Sm.refl s).with _ s.toks)

end
end Mine

namespace Mine
open PySem PySem.W PySem.Calls PyProof.Rows PySem.SeqAt

/-- where a loop stands -/
inductive FInv (prog : Program) (w : World) (K : Frag) (G : RProg) (U : UTy) (p : Program) (loose : List Str) (mg mb : Str → Option Value) (n : Nat) (A : Around) (env : Env) (h₀ : Heap) (L : Addr) (body : List RT) (x : String) (src : RV) (u : Value) (l : List RV) (I : Addr) (fo₁ : Frz) (led₁ : Led) (H₁ : RH) (s₁ : Shared) (Qr : PF) (k : Nat) (s' : Shared) : Prop where
  | mk (i : Nat) (rest : List RV) (loc' : Loc) (m' : Str → Option Value) (led' : Led) (cells' fo' : Frz) (H' : RH) (o' : Obj) : k = rest.length + 1 → l.drop i = rest → i ≤ l.length → SNow prog w K p loose mg mb n A env h₀ L m' led' cells' fo' loc' H' s' → (I, o') ∈ fo' → ItAt src u i o' →
      VRel K led' (cells' ++ fo') src u → wpFor (fun l' H' Q' => wpSs G U body l' H' Q') x (srcOf H₁ src) rest loc' H' Qr → (∀ q ∈ fo₁, q ∈ fo' ∧ q.1 ≠ I) → Ext led₁ led' → Sm s₁ s' →
      FInv prog w K G U p loose mg mb n A env h₀ L body x src u l I fo₁ led₁ H₁ s₁ Qr k s'

section
variable {prog : Program} {w : World} {K : Frag} {G : RProg} {U : UTy} {p : Program} {loose : List Str} {mg mb : Str → Option Value} {n : Nat}

theorem st_for {it : Expr} {id : Str} {np : Pos} {x : String} {it' : RE} {body : List Stmt} {body' : List RT} {pos : Pos} (h1 : EvOk prog w K G U p loose mg mb n it it') (h2 : SsOk prog w K G U p loose mg mb n body body') :
    StOk prog w K G U p loose mg mb n (.For (.Name id np) it body [] pos) (.for_ x it' body') := by
  intro A env h₀ L m led cells fo loc H s E Qr Q hm N hw hQ
  simp only [mtS_for, Bool.and_eq_true] at hm
  rw [wpS_for] at hw
  obtain ⟨⟨⟨hid, hW⟩, hmi⟩, hmb⟩ := hm
  have eid := eq_of_beq hid
  subst eid
  refine wpAny_For (evalS h1 hmi N hw ?_) (foldless hmi)
  intro src u led₁ fo₁ H₁ s₁ q hv N₁ x₁ y₁ z₁
  try dsimp only at q
  split at q
  · rename_i l hl
    obtain ⟨hp, q⟩ := q
    refine iter_ok N₁ hv hp ?_
    intro I o s₂ N₂ hit hfr z₂
    refine codeAny_forLoop_any (FInv prog w K G U p loose mg mb n A env h₀ L body' x src u l I fo₁ led₁ H₁ s₁ Qr) ?_ (l.length + 1)
      (.mk 0 l loc m led₁ cells ((I, o) :: fo₁) H₁ o rfl rfl (Nat.zero_le _) N₂ (.head _) hit (hv.mono (Ext.refl _) (sub_cells fun q hq => .tail _ hq)) q (fun q hq => ⟨.tail _ hq, hfr q hq⟩) (Ext.refl _) z₂)
    rintro k s₃ ⟨i, rest, loc₃, m₃, led₃, cells₃, fo₃, H₃, o₃, rfl, hrest, hi, N₃, hI₃, hit₃, hv₃, hw₃, hf₃, x₃, z₃⟩
    have hsub : Sub fo (without I fo₃) := y₁.trans fun q hq => without_mem.mpr (hf₃ q hq)
    have same : srcOf H₁ src H₃ → placed H₃ src ∧ itemsR H₃ src = some l := src_same hp hl
    cases rest with
    | nil =>
      simp only [wpFor] at hw₃
      obtain ⟨hpl, hl₃⟩ := same hw₃.1
      have hlen : l.length = i := by
        have := List.drop_eq_nil_iff.mp hrest; omega
      refine next_end N₃ hI₃ hv₃ hit₃ hpl hl₃ hlen fun s' N' z' => ?_
      exact wpAny_pure (hQ .next .next loc₃ m₃ led₃ cells₃ (without I fo₃) H₃ s' hw₃.2 .next N' (x₁.trans x₃) hsub (z₁.trans (z₃.trans z')))
    | cons v rest =>
      simp only [wpFor] at hw₃
      obtain ⟨hsrc, hb⟩ := hw₃
      obtain ⟨hpl, hl₃⟩ := same hsrc
      have hlt : i < l.length := by
        by_cases h : i < l.length
        · exact h
        · rw [List.drop_eq_nil_iff.mpr (by omega)] at hrest; cases hrest
      have hd := List.drop_eq_getElem_cons hlt
      rw [hrest] at hd
      simp only [List.cons.injEq] at hd
      have hvi : l[i]? = some v := by rw [List.getElem?_eq_getElem hlt, hd.1]
      · refine next_item N₃ hI₃ hv₃ hit₃ hpl hl₃ hvi fun u' o' s' hvu hvs hit' N' z' => ?_
        refine wpAny_pure ?_
        refine wpAny_assign_Name (store_ok hW N' hvu ?_)
        intro m₅ cells₅ s₅ N₅ hS₅ z₅
        refine h2 hmb N₅ hb ?_
        intro fl flow loc₆ m₆ led₆ cells₆ fo₆ H₆ s₆ q₆ hf N₆ x₆ y₆ z₆
        have hsub₆ : ∀ q ∈ fo₁, q ∈ fo₆ ∧ q.1 ≠ I := fun q hq => ⟨y₆ q (.tail _ (without_mem.mpr (hf₃ q hq))), (hf₃ q hq).2⟩
        have zz := z₁.trans (z₃.trans (z'.trans (z₅.trans z₆)))
        have xx := x₁.trans (x₃.trans x₆)
        have yy : Sub fo fo₆ := y₁.trans fun q hq => (hsub₆ q hq).1
        have hS₆ : SubI K (cells₅ ++ ((I, o') :: without I fo₃)) (cells₆ ++ fo₆) := fun a x hne hc im => by
          rcases im with im | im
          · rcases List.mem_append.mp im with h | h
            · obtain ⟨cv, e⟩ := N₅.c5 _ h
              exact absurd e (hne cv)
            · exact .inl (List.mem_append.mpr (.inr (y₆ _ h)))
          · exact .inr im
        have hv₆ : VRel K led₆ (cells₆ ++ fo₆) src u := ((hvs.monoI hS₅).monoI hS₆).mono x₆ (Sub.refl _)
        cases hf with
        | next => exact ⟨rest.length + 1, Nat.lt_succ_self _, .mk (i + 1) rest loc₆ m₆ led₆ cells₆ fo₆ H₆ o' rfl hd.2.symm hlt N₆ (y₆ _ (.head _)) hit' hv₆ q₆ hsub₆ (x₃.trans x₆) (z₃.trans (z'.trans (z₅.trans z₆)))⟩
        | ret hr => exact hQ _ _ loc₆ m₆ led₆ cells₆ fo₆ H₆ s₆ q₆ (.ret hr) N₆ xx yy zz
  · exact q.elim
end
end Mine

namespace Mine
open PySem PySem.W PySem.Calls PyProof.Rows PySem.SeqAt

section
variable {prog : Program} {w : World} {K : Frag} {G : RProg} {U : UTy} {p : Program} {loose : List Str} {mg mb : Str → Option Value} {n : Nat}

theorem st_vac {st : Stmt} {r : RT} (h : ∀ ns, mtS ns st r = false) : StOk prog w K G U p loose mg mb n st r := by
  intro A env h₀ L m led cells fo loc H s E Qr Q hm N hw hQ
  rw [h] at hm; cases hm
theorem st_raise {e c : Option Expr} {pos : Pos} : StOk prog w K G U p loose mg mb n (.Raise e c pos) .raise_ := by
  intro A env h₀ L m led cells fo loc H s E Qr Q hm N hw hQ
  exact hw.elim
theorem st_asgc {e : Expr} {r : RE} {id : Str} {x : String} {np pos : Pos} (ev : ∀ e r, EvOk prog w K G U p loose mg mb n e r) (ts : ∀ e r, TsOk prog w K G U p loose mg mb n e r) (hc : plainVal e = false) :
    StOk prog w K G U p loose mg mb n (.Assign [.Name id np] e pos) (.asg x r) := by
  intro A env h₀ L m led cells fo loc H s E Qr Q hm N hw hQ
  simp only [mtS_asg1, Bool.and_eq_true] at hm
  obtain ⟨⟨he, hid⟩, hW⟩ := hm
  have eid := eq_of_beq hid
  subst eid
  cases mt_of he with
  | comp1 hm' =>
    rename_i elt it y yp cpos ifs k sc elt' it' y' ifs'
    obtain ⟨b, sw⟩ : ∃ b, swapsWith (.ListComp elt [⟨.Name y yp, it, ifs, k⟩] sc cpos) (some (.Name (Str.ofString x) np)) pos.line env = pure b := ⟨_, rfl⟩
    cases b with
    | false =>
      rw [wpS_asg] at hw
      refine wpAny_Assign_Name (evalS (ev _ _) he N hw ?_) sw
      intro v u led₁ fo₁ H₁ s₁ q hv N' x₁ y₁ z₁
      refine store_ok hW N' hv ?_
      intro m' cells' s₂ N'' hI z₂
      exact hQ .next .next _ m' led₁ cells' fo₁ H₁ s₂ q .next N'' x₁ y₁ (z₁.trans z₂)
    | true =>
      simp only [mtE_comp1, Bool.and_eq_true] at he
      obtain ⟨⟨⟨⟨⟨⟨hk, hx⟩, hsc⟩, hcm⟩, hit⟩, hel⟩, hif⟩ := he
      have ek : k = 0 := eq_of_beq hk
      have ex := eq_of_beq hx
      subst ek; subst ex
      have S := scOk_of hsc hcm
      rw [wpS_asg, wpE_comp1] at hw
      obtain ⟨cl, hcl, hclk⟩ := clos_ok (sc := sc) (env := env) fun q hq e => N.e.cel q.1 (S.free q hq e)
      rw [exec_Assign_Name_used _ _ _ _ sw]
      refine wpAny_bind (wpAny_standAt (wpAny_bind ?_))
      show wpAny _ A (do let _ ← comprehension (.ListComp elt [⟨.Name (Str.ofString y') yp, it, ifs, 0⟩] sc cpos) sc env _ (newList []) false (eval it env) (some (assign (.Name (Str.ofString x) np) env))) _ _ s
      refine wpAny_bind (wpAny_mono (wpAny_comprehension_free (use := some (assign (.Name (Str.ofString x) np) env)) (Q := fun _ s' => Q .next s') rfl (foldless hit) hcl S.knd (fun q hq e => by rw [nodup_lookup S.nd q hq, e]) ?_) (fun _ s' hq => wpAny_pure (wpAny_pure hq)) fun _ _ e => e)
      refine evalS (ev it it') hit N hw ?_
      intro src u led₁ fo₁ H₁ s₁ q hv N₁ x₁ y₁ z₁
      try dsimp only at q
      split at q
      · rename_i l hl
        obtain ⟨hp, hlen, q⟩ := q
        refine comp_core (RR := fun acc C => compPost (model prog w) A E (some (assign (.Name (Str.ofString x) np) env)) (fun _ s' => Q .next s') acc C) (ev elt elt') (ifs_ok fun e _ r => ts e r) N₁.now S hclk hel hif hv hp hl hlen q ?_
        intro D C oC mC led' fr' H' vs ws k s' hq r' hD hA hC hn hqC hDC hf x' z'
        have hq : Qr .next (setL x (.ref H'.length) loc) (H' ++ [.list vs]) := hq
        show wpAny _ A (assign (.Name (Str.ofString x) np) env (.ref D)) _ E s'
        obtain ⟨r₃, hE, hadr⟩ := r'.adopt hD hA
        obtain ⟨N₂, f1, f2⟩ := N₁.next r₃ (x'.trans hE) (fun q hq => without_mem.mpr ⟨(hf q hq).1, (hf q hq).2.2⟩)
        have hC₂ : (C, oC) ∈ restOf cells (without D fr') := by
          rcases List.mem_append.mp (f2 (C, oC) (without_mem.mpr ⟨hC, fun e => hDC e.symm⟩)) with h | h
          · exact absurd rfl (hf _ (List.mem_append.mpr (.inl h))).2.1
          · exact h
        refine wpAny_assign_Name (store_ok hW N₂ (.ref hadr) ?_)
        intro m' cells' s₃ N₃ hI z₃
        obtain ⟨o, es, ep, g, d⟩ := hn
        have eo : o = oC := Option.some.inj (g.symm.trans (r'.at (List.mem_append.mpr (.inr hC))))
        subst eo
        refine ⟨mC, ⟨o, es, ep, N₃.r.at (List.mem_append.mpr (.inr (List.mem_append.mpr (.inr hC₂)))), d⟩, fun h' hs' => ?_⟩
        have N₄ := N₃.drop (s' := { s₃ with heap := h' }) hC₂ hqC fun b y hb e => hs'.extBut b y hb e
        exact hQ .next .next _ m' _ cells' _ _ _ hq .next N₄ (x₁.trans (x'.trans hE)) (y₁.trans fun q hq => without_mem.mpr ⟨f1 q hq, (hf q (List.mem_append.mpr (.inr hq))).2.1⟩) (z₁.trans (z'.trans (z₃.trans ((Sm.refl s₃).with h' s₃.toks))))
      · exact q.elim
  | _ => exact Bool.noConfusion (show true = false from hc)
theorem swaps_attr {e o : Expr} {x : Str} {ap : Pos} {k : Nat} {env : Env} : swapsWith e (some (.Attribute o x ap)) k env = pure false := by
  cases e <;> rfl
theorem swaps_sub {e o i : Expr} {ap : Pos} {k : Nat} {env : Env} : swapsWith e (some (.Subscript o i ap)) k env = pure false := by
  cases e <;> rfl
theorem SNow.step {A : Around} {env : Env} {h₀ : Heap} {L : Addr} {m : Str → Option Value} {led led' : Led} {cells fo : Frz} {loc : Loc} {H H' : RH} {s s' : Shared} (N : SNow prog w K p loose mg mb n A env h₀ L m led cells fo loc H s)
    (r : Rel w.params K h₀ L m led' (cells ++ fo) H' s') (x : Ext led led') : SNow prog w K p loose mg mb n A env h₀ L m led' cells fo loc H' s' := ⟨N.a, N.e, N.lo, N.l.mono x (Sub.refl _), r, N.c1, N.c2, N.c3, N.c4, N.c5⟩
theorem st_asgAttr {o e : Expr} {o' e' : RE} {x : Str} {x' : String} {ap pos : Pos} (O : ProgOk K G) (h1 : EvOk prog w K G U p loose mg mb n e e') (h2 : EvOk prog w K G U p loose mg mb n o o') :
    StOk prog w K G U p loose mg mb n (.Assign [.Attribute o x ap] e pos) (.asgAttr o' x' e') := by
  intro A env h₀ L m led cells fo loc H s E Qr Q hm N hw hQ
  simp only [mtS_asgAttr, Bool.and_eq_true] at hm
  rw [wpS_asgAttr] at hw
  obtain ⟨⟨he, ho⟩, hx⟩ := hm
  have ex := eq_of_beq hx
  subst ex
  refine plainObj_wpAny_Assign_Attribute (evalS h1 he N hw ?_) swaps_attr
  intro v u led₁ fo₁ H₁ s₁ q hv N₁ x₁ y₁ z₁
  refine evalS h2 ho N₁ q ?_
  intro ov ou led₂ fo₂ H₂ s₂ q₂ hov N₂ x₂ y₂ z₂
  try dsimp only at q₂
  split at q₂
  · rename_i H₃ hf
    refine setAttr_ok O N₂.a N₂.r hov (hv.mono x₂ (sub_cells y₂)) hf fun led₃ s₃ r₃ x₃ z₃ => ?_
    exact hQ .next .next loc m led₃ cells fo₂ H₃ s₃ q₂ .next (N₂.step r₃ x₃) (x₁.trans (x₂.trans x₃)) (y₁.trans y₂) (z₁.trans (z₂.trans z₃))
  · exact q₂.elim
theorem st_asgSub {o i e : Expr} {o' i' e' : RE} {ap pos : Pos} (h1 : EvOk prog w K G U p loose mg mb n e e') (h2 : EvOk prog w K G U p loose mg mb n o o') (h3 : EvOk prog w K G U p loose mg mb n i i') :
    StOk prog w K G U p loose mg mb n (.Assign [.Subscript o i ap] e pos) (.asgSub o' i' e') := by
  intro A env h₀ L m led cells fo loc H s E Qr Q hm N hw hQ
  simp only [mtS_asgSub, Bool.and_eq_true] at hm
  rw [wpS_asgSub] at hw
  obtain ⟨⟨he, ho⟩, hi⟩ := hm
  refine wpAny_Assign_Subscript (evalS h1 he N hw ?_) swaps_sub
  intro v u led₁ fo₁ H₁ s₁ q hv N₁ x₁ y₁ z₁
  refine evalS h2 ho N₁ q ?_
  intro ov ou led₂ fo₂ H₂ s₂ q₂ hov N₂ x₂ y₂ z₂
  refine evalS h3 hi N₂ q₂ ?_
  intro iv iu led₃ fo₃ H₃ s₃ q₃ hiv N₃ x₃ y₃ z₃
  try dsimp only at q₃
  split at q₃
  · rename_i H₄ hf
    refine setItem_ok N₃.a N₃.r (hov.mono x₃ (sub_cells y₃)) hiv (hv.mono (x₂.trans x₃) (sub_cells (y₂.trans y₃))) hf fun led₄ s₄ r₄ x₄ z₄ => ?_
    exact hQ .next .next loc m led₄ cells fo₃ H₄ s₄ q₃ .next (N₃.step r₄ x₄) (x₁.trans (x₂.trans (x₃.trans x₄))) (y₁.trans (y₂.trans y₃)) (z₁.trans (z₂.trans (z₃.trans z₄)))
  · exact q₃.elim
theorem ss_all {ss : List Stmt} : ∀ {rs : List RT}, (∀ st ∈ ss, ∀ r, StOk prog w K G U p loose mg mb n st r) → SsOk prog w K G U p loose mg mb n ss rs := by
  induction ss with
  | nil =>
    intro rs h
    cases rs with
    | nil => exact ss_nil
    | cons r rs =>
      intro A env h₀ L m led cells fo loc H s E Qr Q hm N hw hQ
      exact absurd hm Bool.false_ne_true
  | cons e es ih =>
    intro rs h
    cases rs with
    | nil =>
      intro A env h₀ L m led cells fo loc H s E Qr Q hm N hw hQ
      exact absurd hm Bool.false_ne_true
    | cons r rs => exact ss_cons (h e (.head _) r) (ih fun e he => h e (.tail _ he))

theorem st_of {st : Stmt} {r : RT} (h : ∀ ns, mtS ns st r = true → StOk prog w K G U p loose mg mb n st r) : StOk prog w K G U p loose mg mb n st r := by
  intro A env h₀ L m led cells fo loc H s E Qr Q hm N hw hQ
  exact h _ hm hm N hw hQ
theorem stOk' (O : ProgOk K G) (hU : UOk prog w K p loose mg mb U n) : ∀ (N : Nat) (st : Stmt), sizeOf st < N → ∀ r, StOk prog w K G U p loose mg mb n st r := by
  intro N
  induction N with
  | zero => intro e h; exact absurd h (Nat.not_lt_zero _)
  | succ N ih =>
    intro st he r
    have all : ∀ ss : List Stmt, sizeOf ss ≤ N → ∀ {rs}, SsOk prog w K G U p loose mg mb n ss rs := fun ss h {rs} => ss_all fun st hm r => ih st (Nat.lt_of_lt_of_le (List.sizeOf_lt_of_mem hm) h) r
    have ev : ∀ e r, EvOk prog w K G U p loose mg mb n e r := fun e r => evalOk O hU e r
    have ts : ∀ e r, TsOk prog w K G U p loose mg mb n e r := fun e r => testOk O hU e r
    refine @st_of prog w K G U p loose mg mb n st r ?_
    intro ns hm
    cases mtS_of hm with
    | expr => exact @st_expr prog w K G U p loose mg mb n _ _ _ (ev _ _)
    | ret => exact @st_ret prog w K G U p loose mg mb n _ _ _ (ev _ _)
    | asg h' =>
      rename_i id np pos e x r
      cases hc : plainVal e with
      | true => exact @st_asg prog w K G U p loose mg mb n _ _ _ _ _ _ (ev _ _) hc
      | false => exact @st_asgc prog w K G U p loose mg mb n _ _ _ _ _ _ ev ts hc
    | asgAttr => exact @st_asgAttr prog w K G U p loose mg mb n _ _ _ _ _ _ _ _ O (ev _ _) (ev _ _)
    | asgSub => exact @st_asgSub prog w K G U p loose mg mb n _ _ _ _ _ _ _ _ (ev _ _) (ev _ _) (ev _ _)
    | ite =>
      simp only [Stmt.If.sizeOf_spec] at he
      exact @st_ite prog w K G U p loose mg mb n _ _ _ _ _ _ _ (ts _ _) (all _ (by omega)) (all _ (by omega))
    | for_ =>
      simp only [Stmt.For.sizeOf_spec] at he
      exact @st_for prog w K G U p loose mg mb n _ _ _ _ _ _ _ _ (ev _ _) (all _ (by omega))
    | raise_ => exact @st_raise prog w K G U p loose mg mb n _ _ _
theorem ssOk (O : ProgOk K G) (hU : UOk prog w K p loose mg mb U n) (ss : List Stmt) (rs : List RT) : SsOk prog w K G U p loose mg mb n ss rs := ss_all fun st _ r => stOk' O hU _ st (Nat.lt_succ_self _) r
theorem uok (O : ProgOk K G) : ∀ n, UOk prog w K p loose mg mb (callU G n) n
  | 0 => by
    intro a hm hv r hw
    simp only [callU] at hw
  | n + 1 => uok_succ fun ss rs => ssOk O (uok O n) ss rs
end
end Mine

namespace Mine
open PySem PySem.W PySem.Calls PyProof.Rows PySem.SeqAt

section
variable {prog : Program} {w : World} {A : Around} {s : Shared} {R : Result → Shared → Prop} {name qual : Str} {params : Arguments} {body : List Stmt} {scope : Scope} {dV kV doc pm cdv ct : Value} {an : Option Addr} {fo : Obj} {f : Addr} {args : Args} {binds : List (Str × Value)}
/-- a call from the very top -/
theorem callT_cells (hlim : s.heap.NoLimit)
    (ho : s.heap.get? f = some fo) (hd : fo.data = .func (fnX name qual params body scope [] dV kV doc pm an cdv ct)) (hcd : s.heap.CodeRec cdv qual) (hroom : A.depth < recursionLimit)
    (hbind : BindsTo s (fnX name qual params body scope [] dV kV doc pm an cdv ct) args binds)
    (hkind : ∀ n, ∀ x ∈ binds, scope.names.lookup x.1 = some .local ∨ (scope.names.lookup x.1 = some .cell ∧ ((cellsFrom n scope.names []).lookup x.1).isSome = true))
    (hnd : ((cellsFrom 0 scope.names []).map (·.1)).Nodup)
    (h : ∀ h₁ tk cells, Fr s.heap s.heap.objs.size h₁ (bindL (envOfC qual scope s.heap.objs.size f cdv).kindOf binds fun _ => none) → News s.heap s.heap.objs.size h₁ cells →
      CellsAre (bindC (envOfC qual scope s.heap.objs.size f cdv).kindOf binds fun _ => none) (cellsFrom (s.heap.objs.size + 1) scope.names []) cells →
      wpAny (model prog w) (A.deeper (envOfC qual scope s.heap.objs.size f cdv)) (execs body (envOfC qual scope s.heap.objs.size f cdv))
        (fun fl s' => R (.ok (.ret (match fl with | .ret v => v | _ => .none))) s')
        (fun e s' => wpAny (model prog w) (A.deeper (envOfC qual scope s.heap.objs.size f cdv)) (leaving (envOfC qual scope s.heap.objs.size f cdv) e) (fun _ s'' => R (.error e) s'') (fun e' s'' => R (.error e') s'') s')
        { s with heap := h₁, toks := tk })
    (hco : scope.isCoroutine = false := by rfl) (hgen : scope.isGenerator = false := by rfl) (hk : scope.kind = .function := by rfl) : codeAny (model prog w) A (.call (.ref f) args) R s := by
  refine codeAny_call_function hroom ho hd hco hgen rfl hcd (hbind _ _ _ _ ?_)
  refine wpAny_newFunctionEnv_cells hk (hkind _) fun env' he s' x => ?_
  subst he
  refine ⟨hlim.keeps x.toInCall.keep, codeAny_func ?_⟩
  obtain ⟨h₁, tk, rfl, _⟩ := x.done
  have hk₁ := x.toInCall.keep
  obtain ⟨cells, NC, Y⟩ := Cl.news (h₀ := s.heap) (Nat.le_refl _) fun n c hm => ⟨x.cell n c (lookup_of_mem_nodup (cellsFrom_names scope.names 0 (s.heap.objs.size + 1) [] [] rfl ▸ hnd) hm), x.above n c hm⟩
  exact h h₁ tk cells ⟨x.toInCall.ns, hk₁, Nat.le_refl _⟩ NC Y
end

section
variable {prog : Program} {w : World} {K : Frag} {G : RProg} {p : Program} {loose : List Str} {mg mb : Str → Option Value} {n : Nat}
theorem uok_top {s : Shared} {Qr : PV} {R : Result → Shared → Prop} {d : RFn} {f : Addr} {qual : Str} {args : List RV} {vals : List Value} (O : ProgOk K G) (hn : n ≤ 50)
    (X : K.In s.heap) (T : TopRead p loose mg mb s.heap) (sr : s.heap.NoSeer) (tr : prog.given.tree = none) (hz : FdOk w.params K)
    (hm : mtFn K f qual d = true) (hv : VsRel K [] [] args vals) (hw : callU G (n + 1) d args [] Qr)
    (hQ : ∀ v u led fr H s', Qr v H → VRel K led fr v u → (∀ b o, s.heap.get? b = some o → s'.heap.get? b = some o) → Sm s s' → R (.ok (.ret u)) s') :
    codeAny (model prog w) callerA (.call (.ref f) ⟨vals, []⟩) R s := by
  unfold mtFn at hm
  split at hm
  · rename_i c od fd osl hK
    simp only [Bool.and_eq_true, decide_eq_true_eq] at hm
    obtain ⟨⟨⟨⟨⟨⟨⟨⟨⟨⟨⟨⟨⟨⟨⟨⟨⟨⟨⟨⟨hgl, hcl⟩, hbl⟩, hqn⟩, hcd⟩, hgen⟩, hcor⟩, hkd⟩, hnn⟩, hfree⟩, hpo⟩, hva⟩, hko⟩, hkw⟩, hpar⟩, hpw⟩, hpn⟩, hdl⟩, hdf⟩, hkd2⟩, hbody⟩ := hm
    have hgl := eq_of_beq hgl
    have hcl : fd.closure = [] := by simpa using hcl
    have hbl := eq_of_beq hbl
    have hqn := eq_of_beq hqn
    have hgen : fd.scope.isGenerator = false := by simpa using hgen
    have hcor : fd.scope.isCoroutine = false := by simpa using hcor
    have hkd := eq_of_beq hkd
    have hpo : fd.params.posonlyargs = [] := by simpa using hpo
    have hva : fd.params.vararg = none := by simpa using hva
    have hko : fd.params.kwonlyargs = [] := by simpa using hko
    have hkw : fd.params.kwarg = none := by simpa using hkw
    have hpar := eq_of_beq hpar
    split at hbody
    · rename_i b hb
      have hfd : fd = fnX fd.name fd.qualname fd.params b fd.scope [] fd.defaults fd.kwdefaults fd.doc fd.pyModule fd.annotations fd.code fd.closureTuple := by
        cases fd; simp_all
      simp only [callU] at hw
      split at hw
      · rename_i loc hloc
        unfold bindR at hloc
        split at hloc
        · rename_i hlen
          cases hloc
          have Xs : K.In s.heap := X
          -- the defaults
          obtain ⟨ds, hds, hdl', hrd⟩ : ∃ ds : List Value, VsRel K [] [] d.dflts ds ∧ ds.length = d.dflts.length ∧
              ∀ (M : Model) (A : Around) (E : Value → Shared → Prop) (Q : Option (Array Value) → Shared → Prop), (∀ o, (o.getD #[]).toList = ds → Q o s) → wpAny M A (seqItems? fd.defaults) Q E s := by
            split at hdf
            · rename_i hdn
              have : d.dflts = [] := by simpa using hdf
              rw [this, hdn]
              exact ⟨[], .nil, rfl, fun M A E Q hq => wpAny_of_eq (show seqItems? Value.none = pure none from rfl) (hq none rfl)⟩
            · rename_i t ht
              split at hdf
              · rename_i cc vs' k' sl' hKt
                simp only [Bool.and_eq_true, decide_eq_true_eq] at hdf
                refine ⟨vs'.toList, VsRel_of_mtV _ _ hdf.1.2 hdf.2, hdf.1.2, fun M A E Q hq => ?_⟩
                rw [ht]
                exact wpAny_seqItems (Xs _ _ hKt) rfl (hq _ rfl)
              · cases hdf
            · cases hdf
          have hargs := hv.length
          have hnames : (fd.params.args.map (·.arg)).length = d.params.length := by rw [hpar, List.length_map]
          have hndn : (fd.params.args.map (·.arg)).Nodup := by
            rw [hpar]
            exact nodup_names hpn
          have hall := hv.append (hds.drop (d.dflts.length - (d.params.length - args.length)))
          have hbinds := binds_ok (s := s) (fd := fd) (vals := vals) (ds := ds) hpo hva hko hkw hndn (by rw [hnames, ← hargs]; exact hlen.1) (by rw [hnames, hdl', ← hargs]; exact hlen.2) (by rw [hnames, hdl']; exact hdl) hrd
          rw [hnames, hdl', ← hargs] at hbinds
          generalize hbn : (fd.params.args.map (·.arg)).zip (vals ++ ds.drop (d.dflts.length - (d.params.length - args.length))) = binds at hbinds
          have hws : (vals ++ ds.drop (d.dflts.length - (d.params.length - args.length))).length = d.params.length := by
            rw [List.length_append, List.length_drop, hdl', ← hargs]; have := hlen.1; have := hlen.2; omega
          have hbf : binds.map (·.1) = fd.params.args.map (·.arg) := by
            rw [← hbn, List.map_fst_zip]; rw [hnames, hws]; exact Nat.le_refl _
          have hbnd : (binds.map (·.1)).Nodup := by rw [hbf]; exact hndn
          have hkinds : ∀ x ∈ binds, isW (fd.scope.names.lookup x.1) = true := fun x hx => by
            have : x.1 ∈ fd.params.args.map (·.arg) := hbf ▸ List.mem_map_of_mem hx
            obtain ⟨q, hq, e⟩ := List.mem_map.mp this
            rw [← e]
            exact List.all_eq_true.mp hpw q hq
          have cellName : ∀ x, fd.scope.names.lookup x = some .cell → ∀ k, ∃ c, (cellsFrom k fd.scope.names []).lookup x = some c := fun x hx k => by
            have := cellsFrom_some fd.scope.names k [] (.inl hx)
            exact Option.isSome_iff_exists.mp this
          have cellFst : ∀ k, ((cellsFrom k fd.scope.names []).map (·.1)).Nodup := fun k => by
            rw [cellsFrom_ins]
            simp only [List.map_nil, List.append_nil]
            refine nodup_rev ?_
            exact hnn.sublist (List.Sublist.map _ List.filter_sublist)
          rw [hfd] at hK hbinds
          refine callT_cells T.nolimit (Xs _ _ hK) rfl (codeRec_of Xs hcd) (by decide +kernel) hbinds (fun k x hx => ?_) (cellFst 0) ?_ hcor hgen hkd
          · have hk := hkinds x hx
            simp only [isW, Bool.or_eq_true, beq_iff_eq] at hk
            rcases hk with hk | hk
            · exact .inl hk
            · obtain ⟨c, hc⟩ := cellName _ hk k
              exact .inr ⟨hk, by rw [hc]; rfl⟩
          · intro h₁ tk cells F' N' CA
            generalize hL' : s.heap.objs.size = L' at F' N' CA ⊢
            have B' := below_caller s.heap
            have cge := cellsFrom_ge fd.scope.names (L' + 1) [] (fun q hq => by cases hq) .nil
            have cmem : ∀ x c, (cellsFrom (L' + 1) fd.scope.names []).lookup x = some c → (x, c) ∈ cellsFrom (L' + 1) fd.scope.names [] := fun x c e => lookup_mem e
            have cbig : ∀ q ∈ cells, L' < q.1 := fun q hq => by
              have : q.1 ∈ (cellsFrom (L' + 1) fd.scope.names []).map (·.2) := by rw [← cellsAre_fst CA]; exact List.mem_map_of_mem hq
              obtain ⟨z, hz, e⟩ := List.mem_map.mp this
              rcases cge.2 z hz with h | h
              · cases h
              · rw [← e]; exact h
            have kindEq : ∀ x, (envOfC fd.qualname fd.scope L' f fd.code).kindOf x = fd.scope.names.lookup x := fun x => rfl
            have hAct : Act prog K p loose mg mb (callerA.deeper (envOfC fd.qualname fd.scope L' f fd.code)) (envOfC fd.qualname fd.scope L' f fd.code) s.heap L' n :=
              ⟨⟨callerA, s.heap, [], B', Around.frames_deeper B'.stack⟩, rfl, hkd, hgen, hcor, rfl, rfl, X, T, sr, tr, rfl,
                by show 1 + 300 + 1 + 10 * n + 115 + 5 < 1000; omega, by show 4 + 3 + 40 * n + 195 + 5 < 9900; omega⟩
            have hfr : Sub [] (cells ++ []) := fun q hq => by cases hq
            have NW : SNow prog w K p loose mg mb n (callerA.deeper (envOfC fd.qualname fd.scope L' f fd.code)) (envOfC fd.qualname fd.scope L' f fd.code) s.heap L' (bindL (envOfC fd.qualname fd.scope L' f fd.code).kindOf binds fun _ => none) [] cells []
                (d.params.zip (args ++ d.dflts.drop (d.dflts.length - (d.params.length - args.length)))) [] { s with heap := h₁, toks := tk } := by
              refine ⟨hAct, ⟨hkd, rfl, rfl, rfl, fun x k h => .inl h, fun x hx => ?_, .inl ⟨rfl, rfl⟩⟩, rfl, ?_, ⟨hz, F', ?_, .nil, ?_, ⟨rfl, fun i o e => by simp at e⟩⟩, ?_, ?_, ?_, ?_, cellsAre_data CA⟩
              · rcases hx with hx | hx
                · exact cellName x hx (L' + 1)
                · have := List.all_eq_true.mp hfree (x, .free) (lookup_mem hx)
                  simp at this
              · intro x v hx
                obtain ⟨j, h1, h2⟩ := zip_lookup (α := Unit) hx
                obtain ⟨u, hu, hvr⟩ := hall.get j v h2
                have hmem : (Str.ofString x, u) ∈ binds := by
                  rw [← hbn, hpar]
                  exact zip_mem (by rw [List.getElem?_map, h1]; rfl) hu
                refine ⟨fun hk _ => ⟨u, bindL_at binds _ hbnd hmem hk, hvr.mono (Ext.refl _) hfr⟩, fun hk => ?_⟩
                have hk : (envOfC fd.qualname fd.scope L' f fd.code).kindOf (Str.ofString x) = some .cell := by
                  rcases hk with hk | hk
                  · exact hk
                  · have := List.all_eq_true.mp hfree (Str.ofString x, .free) (lookup_mem hk)
                    simp at this
                obtain ⟨c, hc⟩ := cellName _ hk (L' + 1)
                obtain ⟨o, ho, hod⟩ := cellsAre_at CA (cmem _ _ hc)
                refine ⟨c, o, u, hc, List.mem_append.mpr (.inl ho), ?_, hvr.mono (Ext.refl _) hfr⟩
                rw [hod, bindC_at binds _ hbnd hmem hk]
              · intro q hq
                simp only [List.flatten_nil, List.nil_append, List.append_nil] at hq
                exact N' q hq
              · intro q hq hin
                simp at hin
              · rw [cellsAre_fst CA]; exact cge.1
              · intro q hq hin
                cases hq
              · intro x hx
                obtain ⟨c, hc⟩ := cellName x hx (L' + 1)
                obtain ⟨o, ho, hod⟩ := cellsAre_at CA (cmem _ _ hc)
                exact ⟨c, o, _, hc, ho, hod⟩
              · intro x y c h1 h2
                exact snd_inj cge.1 (cmem _ _ h1) (cmem _ _ h2)
            refine ssOk O (uok O n) b d.body hbody NW hw ?_
            intro fl flow loc' m' led₁ cells₁ fo₁ H₁ s₁ q hf N₁ x y z
            have hI : SubI K (cells₁ ++ fo₁) fo₁ := fun a' o hne _ i => by
              rcases i with i | i
              · rcases List.mem_append.mp i with i | i
                · obtain ⟨v, e⟩ := N₁.c5 _ i
                  exact absurd e (hne v)
                · exact .inl i
              · exact .inr i
            have Z : Sm s s₁ := Sm.trans ((Sm.refl s).with h₁ tk) z
            cases hf with
            | next => exact hQ .none .none led₁ fo₁ H₁ s₁ q .none N₁.r.F.keep Z
            | ret hv' => exact hQ _ _ led₁ fo₁ H₁ s₁ q (hv'.monoI hI) N₁.r.F.keep Z
        · cases hloc
      · exact hw.elim
    · cases hbody
  · cases hm
end
end Mine

namespace Mine
open PySem PySem.W PySem.W.X PySem.Calls PyProof.Rows PySem.SeqAt

theorem good_true {l : OpenLaw} {cl : Str → Option Addr} {mean : ExcName → Option Value} {zs : List Int} {s₁ s' : Shared} (hk : ∀ b o, s₁.heap.get? b = some o → s'.heap.get? b = some o) (z : Sm s₁ s') (hg : s₁.gens = #[]) :
    GoodW l.row.claim cl mean [ofPy (PyData.list (zs.map PyData.int))] s₁ (.ok (.ret (.bool true))) s' := by
  refine ⟨.inl ⟨.bool true, .bool true, [], rfl, fun cls => rfl, .bool true, ?_, fun _ => ⟨.nil, fun a h => by cases h⟩⟩, hk, z.2.2, z.1.trans hg⟩
  refine postW_of (X := true) (by show WShape.has [] (WData.bool true) WShape.bool = true; first | rfl | decide +kernel | wrow_shape | simp [WShape.has]) ?_ rfl
  show (WTm.eq .res (.lit (.bool true))).value [] _ = _
  first | rfl | decide +kernel | wtm_val | simp [WTm.value]

theorem vs_ints {K : Frag} {led : Led} {fr : Frz} {vs : List Value} {zs : List Int} (h : IntsAre vs zs) : VsRel K led fr (zs.map RV.int) vs := by
  induction h with
  | nil => exact .nil
  | cons n t _ ih => exact .cons (.int n t) ih

theorem lookup_app {K : Frag} {a b : Addr} {o o' : Obj} (h : (K ++ [(a, o)]).lookup b = some o') : K.lookup b = some o' ∨ (b = a ∧ o' = o) := by
  induction K with
  | nil =>
    simp only [List.nil_append, List.lookup_cons] at h
    cases hq : b == a with
    | true => rw [hq] at h; cases h; exact .inr ⟨eq_of_beq hq, rfl⟩
    | false => rw [hq] at h; cases h
  | cons q K ih =>
    obtain ⟨q1, q2⟩ := q
    simp only [List.cons_append, List.lookup_cons] at h ⊢
    cases hq : b == q1 with
    | true => rw [hq] at h; exact .inl h
    | false => rw [hq] at h; exact ih h
theorem in_app {K : Frag} {h : Heap} {a : Addr} {o : Obj} (X : K.In h) (g : h.get? a = some o) : Frag.In (K ++ [(a, o)]) h := fun b o' e => by
  rcases lookup_app e with e | ⟨rfl, rfl⟩
  · exact X _ _ e
  · exact g
theorem lookup_app_at {K : Frag} {h : Heap} {a : Addr} {o : Obj} (X : K.In h) (g : h.get? a = some o) : (K ++ [(a, o)]).lookup a = some o := by
  have aux : ∀ K : Frag, (∀ o', K.lookup a = some o' → o' = o) → (K ++ [(a, o)]).lookup a = some o := fun K => by
    induction K with
    | nil => intro _; simp
    | cons q K ih =>
      obtain ⟨q1, q2⟩ := q
      intro hq
      simp only [List.cons_append, List.lookup_cons] at hq ⊢
      cases e : a == q1 with
      | true => rw [e] at hq; exact congrArg some (hq q2 rfl)
      | false => rw [e] at hq; exact ih hq
  exact aux K fun o' e => by have := X _ _ e; rw [g] at this; exact (Option.some.inj this).symm

/-- a law, from what it does in ours -/
theorem law_top {l : OpenLaw} {w : World} {K : Frag} {G : RProg} {p : Program} {loose : List Str} {mean : ExcName → Option Value} {mg mb : Str → Option Value} {n : Nat} {s₁ : Shared} {a fa : Addr} {vs : List Value} {zs : List Int} {cl : Str → Option Addr} {mean' : ExcName → Option Value} {d : RFn} {nm : Str}
    (X : K.In s₁.heap) (T : Top p loose mean mg mb s₁.heap) (hi : importsNone p = true) (tr : l.row.prog.given.tree = none) (hg : s₁.gens = #[])
    (hL : s₁.heap.IsList a vs.toArray) (hI : IntsAre vs zs) (hnm : nm = Str.ofString "law") (hmg : mg nm = some (.ref fa))
    (hd : G.funs.lookup "law" = some d) (hm : ∀ a o, mtProg (K ++ [(a, o)]) G = true) (hn : n ≤ 50) (hz : ∀ a o, FdOk w.params (K ++ [(a, o)]))
    (hw : callU G (n + 1) d [.arg (zs.map RV.int)] [] fun v _ => v = .bool true) :
    codeAny (model l.row.prog w) callerA (.call (.ref fa) ⟨[.ref a], []⟩) (GoodW l.row.claim cl mean' [ofPy (PyData.list (zs.map PyData.int))] s₁) s₁ := by
  obtain ⟨o, ho, hc, k, hdt⟩ := hL
  have X' := in_app X ho
  have O := progOk (hm a o)
  obtain ⟨f, hf, hmt⟩ := O.fn "law" d hd
  have := mg_of X' T.g hf
  rw [hnm, this] at hmg
  cases hmg
  refine uok_top (p := p) (loose := loose) (mg := mg) (mb := mb) O hn X' (topRead_of T) (T.seer hi) tr (hz a o) hmt (.cons (.arg (lookup_app_at X ho) hc hdt (vs_ints hI)) .nil) hw ?_
  intro v u led fr H s' q hv hk z
  subst q
  cases hv
  exact good_true hk z hg

end Mine

set_option maxHeartbeats 0
namespace Mine
open PySem PySem.W PySem.Calls PyProof.Rows PySem.SeqAt

def Keeps' (H H' : RH) : Prop := ∀ (i : Nat) (x : RO), H[i]? = some x → H'[i]? = some x
theorem Keeps'.refl (H : RH) : Keeps' H H := fun _ _ e => e
theorem Keeps'.trans {a b c : RH} (x : Keeps' a b) (y : Keeps' b c) : Keeps' a c := fun i v e => y i v (x i v e)
theorem lt_of_at {H : RH} {i : Nat} {x : RO} (h : H[i]? = some x) : i < H.length := by
  by_cases hi : i < H.length
  · exact hi
  · rw [List.getElem?_eq_none (by omega)] at h; cases h
theorem Keeps'.app (H : RH) (l : List RO) : Keeps' H (H ++ l) := fun i x e => by rw [List.getElem?_append_left (lt_of_at e)]; exact e
theorem at_last (H : RH) (a : RO) : (H ++ [a])[H.length]? = some a := by rw [List.getElem?_append_right (Nat.le_refl _), Nat.sub_self]; rfl
theorem at_old {H : RH} {i : Nat} {x : RO} (a : RO) (h : H[i]? = some x) : (H ++ [a])[i]? = some x := Keeps'.app H [a] i x h
theorem at_set {H : RH} {i : Nat} {x : RO} (a : RO) (h : H[i]? = some x) : (H.set i a)[i]? = some a := by
  rw [List.getElem?_set_self (lt_of_at h)]
theorem at_set_ne {H : RH} {i j : Nat} (a : RO) (hij : i ≠ j) : (H.set i a)[j]? = H[j]? := List.getElem?_set_ne hij
theorem lookup_set {α : Type} (x : String) (v : α) (y : String) : ∀ l : List (String × α), (setL x v l).lookup y = if y = x then some v else l.lookup y
  | [] => by
    simp only [setL, List.lookup_cons, List.lookup_nil]
    by_cases h : y = x
    · simp [h]
    · have : (y == x) = false := by simpa using h
      simp [h, this]
  | (z, u) :: r => by
    have ih := lookup_set x v y r
    unfold setL
    by_cases hz : z = x
    · subst hz
      simp only [if_true, List.lookup_cons]
      by_cases h : y = z
      · simp [h]
      · have : (y == z) = false := by simpa using h
        simp [h, this]
    · simp only [hz, if_false, List.lookup_cons]
      by_cases h : y = z
      · have : ¬ y = x := fun e => hz (h ▸ e)
        simp [h]
        intro e; exact absurd e hz
      · have : (y == z) = false := by simpa using h
        simp only [this]
        exact ih

theorem setf {G : RProg} {H : RH} {i : Nat} {c x : String} {fs : List (String × RV)} {v : RV} (h : H[i]? = some (.inst c fs)) (ha : attrOk G c x = true) (hl : fs.length < 900) : setField G H (.ref i) x v = some (H.set i (.inst c (setL x v fs))) := by
  simp only [setField, h, ha, decide_eq_true hl, Bool.and_self, if_true]
theorem getf {G : RProg} {H : RH} {i : Nat} {c x : String} {fs : List (String × RV)} {v : RV} (h : H[i]? = some (.inst c fs)) (ha : attrOk G c x = true) (hl : fs.lookup x = some v) (hv : ∀ y, v ≠ .bi y) : fieldR G H (.ref i) x = some v := by
  simp only [fieldR, h, ha, if_true, hl]
  cases v <;> first | rfl | (exact absurd rfl (hv _))
theorem b_mul {x y : Int} {H : RH} {Q : PV} : binR .Mult (.int x) (.int y) H Q = (smallI x ∧ smallI y ∧ Q (.int (x * y)) H) := rfl
theorem b_add {x y : Int} {H : RH} {Q : PV} : binR .Add (.int x) (.int y) H Q = Q (.int (x + y)) H := rfl
theorem b_sub {x y : Int} {H : RH} {Q : PV} : binR .Sub (.int x) (.int y) H Q = Q (.int (x - y)) H := rfl
theorem b_mod {x y : Int} {H : RH} {Q : PV} : binR .Mod (.int x) (.int y) H Q = (y ≠ 0 ∧ Q (.int (Int.fmod x y)) H) := rfl
theorem b_cat {x y : Str} {H : RH} {Q : PV} : binR .Add (.str x) (.str y) H Q = ((x ++ y).length ≤ sizeLine ∧ Q (.str (x ++ y)) H) := rfl
/-- a comprehension that picks texts -/
theorem turns_pick {turn : RV → RH → (Option RV → RH → Prop) → Prop} {src : RH → Prop} {p : Str → Bool} {H₀ : RH} {Q : List RV → RH → Prop} :
    ∀ (l : List Str) (acc : List RV) (H : RH), Keeps' H₀ H → (∀ H', Keeps' H₀ H' → src H') →
    (∀ x ∈ l, ∀ H' k, Keeps' H₀ H' → (∀ H'', Keeps' H' H'' → k (if p x then some (.str x) else none) H'') → turn (.str x) H' k) →
    (∀ H', Keeps' H₀ H' → Q (acc ++ (l.filter p).map .str) H') → wpTurns turn src (l.map .str) acc H Q
  | [], acc, H, hk, hs, ht, hq => by
    simp only [List.map_nil, wpTurns]
    exact ⟨hs H hk, by simpa using hq H hk⟩
  | x :: l, acc, H, hk, hs, ht, hq => by
    simp only [List.map_cons, wpTurns]
    refine ⟨hs H hk, ht x (.head _) H _ hk fun H' hk' => ?_⟩
    have ih := turns_pick (turn := turn) (src := src) (p := p) (H₀ := H₀) (Q := Q) l (match (if p x then some (RV.str x) else none) with | some x => acc ++ [x] | none => acc) H' (hk.trans hk') hs (fun y hy => ht y (.tail _ hy)) (fun H'' hk'' => by
      have := hq H'' hk''
      cases hp : p x with
      | true => simp only [List.filter_cons, hp, if_true, List.map_cons] at this ⊢; simpa using this
      | false => simp only [List.filter_cons, hp, Bool.false_eq_true, if_false] at this ⊢; simpa using this)
    exact ih

theorem toPDs_strs : ∀ l : List Str, toPDs (l.map .str) = some (l.map .str)
  | [] => rfl
  | x :: l => by simp only [List.map_cons, toPDs, toPD0, toPDs_strs l, Option.map_some]

theorem sortS_eq {l l' : List Str} (hp : l'.Perm l) (hs : l'.Pairwise leT) : sortS l = l' :=
  (List.Perm.eq_of_pairwise (le := leT) (fun a b _ _ => leT_antisymm) hs (sortS_sorted l) (hp.trans (sortS_perm l).symm)).symm

/-! two parts of a list -/
theorem filter_two {α : Type} (a b c : α → Bool) : ∀ l : List α, (∀ x ∈ l, (c x = (a x || b x)) ∧ (a x && b x) = false) → (l.filter a ++ l.filter b).Perm (l.filter c)
  | [], _ => .nil
  | x :: l, h => by
    have ih := filter_two a b c l fun y hy => h y (.tail _ hy)
    obtain ⟨h1, h2⟩ := h x (.head _)
    cases ha : a x with
    | true =>
      rw [ha] at h1 h2
      have hb : b x = false := by simpa using h2
      have hc : c x = true := by simpa using h1
      simp only [List.filter_cons, ha, hb, hc, if_true, Bool.false_eq_true, if_false, List.cons_append]
      exact ih.cons x
    | false =>
      rw [ha] at h1
      cases hb : b x with
      | true =>
        have hc : c x = true := by rw [h1, hb]; rfl
        simp only [List.filter_cons, ha, hb, hc, if_true, Bool.false_eq_true, if_false]
        exact (List.perm_middle).trans (ih.cons x)
      | false =>
        have hc : c x = false := by rw [h1, hb]; rfl
        simp only [List.filter_cons, ha, hb, hc, Bool.false_eq_true, if_false]
        exact ih
end Mine

set_option maxHeartbeats 0
namespace Mine
open PySem PySem.W PySem.W.X PySem.Calls PyProof.Rows PySem.SeqAt
def L04.g_is_word : RFn := { params := ["name"], dflts := [], body := [
  .ret ((.boolop true [(.cmp (.meth (.loc "name") "split" []) [.Eq] [(.list [(.loc "name")])]), (.cmp (.const (.str (PySem.Str.ofString "#"))) [.NotIn] [(.loc "name")])]))] }
def L04.g_Container___init__ : RFn := { params := ["self", "name", "load", "discharge", "length", "weight", "kind", "cooled", "hazard"], dflts := [.int 20, .int 10, .str (PySem.Str.ofString "plain"), .bool false, .int 0], body := [
  .ite (.not (.call (.glb "is_word") [(.loc "name")])) [.raise_] [],
  .ite (.cmp (.loc "length") [.NotIn] [(.tup [(.glb "SHORT"), (.glb "LONG")])]) [.raise_] [],
  .ite (.cmp (.loc "kind") [.NotIn] [(.glb "HEIGHTS")]) [.raise_] [],
  .ite (.boolop false [(.cmp (.loc "load") [.Lt] [(.const (.int 0))]), (.cmp (.loc "discharge") [.LtE] [(.loc "load")])]) [.raise_] [],
  .ite (.cmp (.loc "weight") [.Lt] [(.const (.int 1))]) [.raise_] [],
  .ite (.boolop false [(.cmp (.loc "hazard") [.Lt] [(.const (.int 0))]), (.cmp (.loc "hazard") [.Gt] [(.const (.int 4))])]) [.raise_] [],
  .asgAttr (.loc "self") "name" (.loc "name"),
  .asgAttr (.loc "self") "load" (.loc "load"),
  .asgAttr (.loc "self") "discharge" (.loc "discharge"),
  .asgAttr (.loc "self") "length" (.loc "length"),
  .asgAttr (.loc "self") "weight" (.loc "weight"),
  .asgAttr (.loc "self") "kind" (.loc "kind"),
  .asgAttr (.loc "self") "cooled" (.loc "cooled"),
  .asgAttr (.loc "self") "hazard" (.loc "hazard")] }
def L04.g_Container_is_on_leg : RFn := { params := ["self", "leg"], dflts := [], body := [
  .ret ((.cmp (.attr (.loc "self") "load") [.LtE, .Lt] [(.loc "leg"), (.attr (.loc "self") "discharge")]))] }
def L04.g_Voyage___init__ : RFn := { params := ["self", "ports"], dflts := [], body := [
  .ite (.boolop false [(.cmp (.call (.glb "len") [(.loc "ports")]) [.Lt] [(.const (.int 2))]), (.cmp (.call (.glb "len") [(.call (.glb "set") [(.loc "ports")])]) [.NotEq] [(.call (.glb "len") [(.loc "ports")])]), (.comp1 (.loc "name") "name" (.loc "ports") [(.not (.call (.glb "is_word") [(.loc "name")]))])]) [.raise_] [],
  .asgAttr (.loc "self") "ports" (.call (.glb "tuple") [(.loc "ports")]),
  .asgAttr (.loc "self") "containers" .dict0] }
def L04.g_Voyage_add : RFn := { params := ["self", "container"], dflts := [], body := [
  .ite (.cmp (.attr (.loc "container") "name") [.In] [(.attr (.loc "self") "containers")]) [.raise_] [],
  .ite (.cmp (.attr (.loc "container") "discharge") [.GtE] [(.call (.glb "len") [(.attr (.loc "self") "ports")])]) [.raise_] [],
  .asgSub (.attr (.loc "self") "containers") (.attr (.loc "container") "name") (.loc "container"),
  .ret ((.loc "self"))] }
def L04.g_Voyage_names : RFn := { params := ["self"], dflts := [], body := [
  .ret ((.call (.glb "sorted") [(.attr (.loc "self") "containers")]))] }
def L04.g_Voyage_on_leg : RFn := { params := ["self", "leg"], dflts := [], body := [
  .ret ((.comp1 (.loc "name") "name" (.meth (.loc "self") "names" []) [(.meth (.sub (.attr (.loc "self") "containers") (.loc "name")) "is_on_leg" [(.loc "leg")])]))] }
def L04.g_Voyage_loaded_at : RFn := { params := ["self", "port"], dflts := [], body := [
  .ret ((.comp1 (.loc "name") "name" (.meth (.loc "self") "names" []) [(.cmp (.attr (.sub (.attr (.loc "self") "containers") (.loc "name")) "load") [.Eq] [(.loc "port")])]))] }
def L04.g_Voyage_discharged_at : RFn := { params := ["self", "port"], dflts := [], body := [
  .ret ((.comp1 (.loc "name") "name" (.meth (.loc "self") "names" []) [(.cmp (.attr (.sub (.attr (.loc "self") "containers") (.loc "name")) "discharge") [.Eq] [(.loc "port")])]))] }
def L04.g__law_cell : RFn := { params := ["script", "k"], dflts := [], body := [
  .ite (.cmp (.loc "k") [.Lt] [(.call (.glb "len") [(.loc "script")])]) [.ret ((.sub (.loc "script") (.loc "k")))] [],
  .ret ((.const (.int 0)))] }
def L04.g_law : RFn := { params := ["script"], dflts := [], body := [
  .asg "v" (.call (.glb "Voyage") [(.list [(.const (.str (PySem.Str.ofString "p"))), (.const (.str (PySem.Str.ofString "q"))), (.const (.str (PySem.Str.ofString "r"))), (.const (.str (PySem.Str.ofString "s")))])]),
  .for_ "k" (.call (.glb "range") [(.const (.int 6))]) [.asg "load" (.bin .Mod (.call (.glb "_law_cell") [(.loc "script"), (.bin .Add (.bin .Mult (.const (.int 4)) (.loc "k")) (.const (.int 3)))]) (.const (.int 3))), .expr (.meth (.loc "v") "add" [(.call (.glb "Container") [(.bin .Add (.const (.str (PySem.Str.ofString "c"))) (.call (.glb "str") [(.loc "k")])), (.loc "load"), (.bin .Add (.bin .Add (.loc "load") (.const (.int 1))) (.bin .Mod (.call (.glb "_law_cell") [(.loc "script"), (.bin .Add (.bin .Mult (.const (.int 4)) (.loc "k")) (.const (.int 4)))]) (.bin .Sub (.const (.int 3)) (.loc "load")))), (.sub (.list [(.const (.int 20)), (.const (.int 40))]) (.bin .Mod (.call (.glb "_law_cell") [(.loc "script"), (.bin .Add (.bin .Mult (.const (.int 4)) (.loc "k")) (.const (.int 5)))]) (.const (.int 2)))), (.bin .Add (.const (.int 1)) (.bin .Mod (.call (.glb "_law_cell") [(.loc "script"), (.bin .Add (.bin .Mult (.const (.int 4)) (.loc "k")) (.const (.int 6)))]) (.const (.int 15)))), (.sub (.list [(.const (.str (PySem.Str.ofString "plain"))), (.const (.str (PySem.Str.ofString "high")))]) (.bin .Mod (.call (.glb "_law_cell") [(.loc "script"), (.bin .Add (.bin .Mult (.const (.int 4)) (.loc "k")) (.const (.int 3)))]) (.const (.int 2)))), (.cmp (.bin .Mod (.call (.glb "_law_cell") [(.loc "script"), (.bin .Add (.bin .Mult (.const (.int 4)) (.loc "k")) (.const (.int 6)))]) (.const (.int 5))) [.Eq] [(.const (.int 0))]), (.sub (.list [(.const (.int 0)), (.const (.int 0)), (.const (.int 1)), (.const (.int 2)), (.const (.int 4))]) (.bin .Mod (.call (.glb "_law_cell") [(.loc "script"), (.bin .Add (.bin .Mult (.const (.int 4)) (.loc "k")) (.const (.int 5)))]) (.const (.int 5))))])])],
  .asg "p" (.bin .Add (.const (.int 1)) (.bin .Mod (.call (.glb "_law_cell") [(.loc "script"), (.const (.int 0))]) (.const (.int 2)))),
  .asg "kept" (.comp1 (.loc "n") "n" (.meth (.loc "v") "on_leg" [(.bin .Sub (.loc "p") (.const (.int 1)))]) [(.cmp (.loc "n") [.NotIn] [(.meth (.loc "v") "discharged_at" [(.loc "p")])])]),
  .ret ((.cmp (.call (.glb "sorted") [(.bin .Add (.loc "kept") (.meth (.loc "v") "loaded_at" [(.loc "p")]))]) [.Eq] [(.meth (.loc "v") "on_leg" [(.loc "p")])]))] }
def L04.g : RProg where
  funs := [("is_word", L04.g_is_word), ("_law_cell", L04.g__law_cell), ("law", L04.g_law)]
  clss := [("Container", { ms := [("__init__", L04.g_Container___init__), ("is_on_leg", L04.g_Container_is_on_leg)], attrs := ["name", "load", "discharge", "length", "weight", "kind", "cooled", "hazard"] }), ("Voyage", { ms := [("__init__", L04.g_Voyage___init__), ("add", L04.g_Voyage_add), ("names", L04.g_Voyage_names), ("on_leg", L04.g_Voyage_on_leg), ("loaded_at", L04.g_Voyage_loaded_at), ("discharged_at", L04.g_Voyage_discharged_at)], attrs := ["ports", "containers"] })]
  vals := [("SHORT", .int 20), ("LONG", .int 40), ("HEIGHTS", .fdict [(PySem.Str.ofString "plain", .int 26), (PySem.Str.ofString "high", .int 29)])]
theorem szl : (1 : Nat) ≤ sizeLine := by decide
theorem cell_ok {n : Nat} {zs : List Int} {k : Int} {H : RH} {Q : PV} (h0 : 0 ≤ k) (h1 : k < 1000) (hz : zs.length < 1000) (hq : Q (.int (zs.getD k.toNat 0)) H) : callU L04.g (n + 1) L04.g__law_cell [.arg (zs.map .int), .int k] H Q := by
  show wpSs L04.g (callU L04.g n) L04.g__law_cell.body [("script", .arg (zs.map .int)), ("k", .int k)] H fun fl _ H₁ => Q (retV fl) H₁
  have e1 : globR L04.g "len" = some (.bi "len") := rfl
  simp only [L04.g__law_cell, wpSs_nil, wpSs_cons, wpS_expr, wpS_ret, wpS_asg, wpS_asgAttr, wpS_asgSub, wpS_ite, wpS_raise, wpT_not, wpT_boolop, wpT_cmp, wpT_call, wpT_meth, wpT_comp1, wpE_const, wpE_loc, wpE_glb, wpE_boolop, wpE_bin, wpE_not, wpE_list, wpE_tup, wpE_dict0, wpE_comp1, wpE_cmp, wpE_call, wpE_meth, wpE_attr, wpE_sub, e1, List.lookup, beq_self_eq_true, callable, true_and, wpEs_nil, wpEs_cons, callR, biR, if_true, lenR, List.length_map, wpCmpT_one, wpCmpT_two, cmpP, show ("script" == "k") = false from rfl, show ("k" == "script") = false from rfl]
  refine ⟨by omega, ?_⟩
  by_cases h : k < (zs.length : Int)
  · have hk : k.toNat < zs.length := by omega
    have e2 : idxR k zs.length = some k.toNat := by unfold idxR; rw [if_pos ⟨h0, h, by omega⟩]
    have e3 : (zs.map RV.int)[k.toNat]? = some (.int (zs.getD k.toNat 0)) := by
      rw [List.getElem?_map, List.getElem?_eq_getElem hk, List.getD_eq_getElem?_getD, List.getElem?_eq_getElem hk]; rfl
    simp only [decide_eq_true h, if_true, subR, List.length_map, e2, Option.bind_some, e3]
    exact hq
  · simp only [decide_eq_false h, Bool.false_eq_true, if_false]
    have : zs.getD k.toNat 0 = 0 := by rw [List.getD_eq_getElem?_getD, List.getElem?_eq_none (by omega)]; rfl
    rw [this] at hq
    exact hq

structure Word (nm : Str) : Prop where
  w : Txt.words nm = [nm]
  c : Txt.contains nm (Str.ofString "#") = false
  l : nm.length < 4000
  s : shaped (.list [.str nm]) = true
  e : PyData.eqv (.list [.str nm]) (.list [.str nm]) = true
theorem is_word_ok {n : Nat} {nm : Str} {H : RH} {Q : PV} (h : Word nm) (hq : ∀ H', Keeps' H H' → Q (.bool true) H') : callU L04.g (n + 1) L04.g_is_word [.str nm] H Q := by
  show wpSs L04.g (callU L04.g n) L04.g_is_word.body [("name", .str nm)] H fun fl _ H₁ => Q (retV fl) H₁
  have e1 : ((H ++ [RO.list (List.map RV.str [nm])]) ++ [RO.list [RV.str nm]])[H.length]? = some (.list [.str nm]) := at_old _ (at_last _ _)
  have e2 : ((H ++ [RO.list (List.map RV.str [nm])]) ++ [RO.list [RV.str nm]])[List.length (H ++ [RO.list (List.map RV.str [nm])])]? = some (.list [.str nm]) := at_last _ _
  have e3 : toPDs [.str nm] = some [.str nm] := rfl
  simp only [L04.g_is_word, wpSs_nil, wpSs_cons, wpS_expr, wpS_ret, wpS_asg, wpS_asgAttr, wpS_asgSub, wpS_ite, wpS_raise, wpE_const, wpE_loc, wpE_glb, wpE_boolop, wpE_bin, wpE_not, wpE_list, wpE_tup, wpE_dict0, wpE_comp1, wpE_cmp, wpE_call, wpE_meth, wpE_attr, wpE_sub, wpBool_one, wpBool_two, List.lookup, beq_self_eq_true, methK, if_true, wpEs_nil, wpEs_cons, mbR, h.l, true_and, h.w, wpCmp_one, wpCmp_two, cmpP, eqP, toPDH, e1, e2, e3, Option.map_some, h.s, Bool.and_self, h.e, truthR, inP, h.c, show ("str.split" = "list.append") = False from by decide, if_false, Bool.not_false, retV]
  exact ⟨szl, hq _ ((Keeps'.app _ _).trans (Keeps'.app _ _))⟩

/-- the fields of a container that is made -/
def flds (nm : Str) (ld di ln wt : Int) (kd : Str) (co : Bool) (hz : Int) : List (String × RV) :=
  [("name", .str nm), ("load", .int ld), ("discharge", .int di), ("length", .int ln), ("weight", .int wt), ("kind", .str kd), ("cooled", .bool co), ("hazard", .int hz)]
theorem mk_ok {n i : Nat} {nm kd : Str} {ld di ln wt hz : Int} {co : Bool} {H : RH} {Q : PV} (hi : H[i]? = some (.inst "Container" [])) (hw : Word nm) (hln : ln = 20 ∨ ln = 40) (hkd : kd = Str.ofString "plain" ∨ kd = Str.ofString "high")
    (h1 : ¬ ld < 0) (h2 : ¬ di ≤ ld) (h3 : ¬ wt < 1) (h4 : ¬ hz < 0) (h5 : ¬ 4 < hz)
    (hq : ∀ H', (∀ (j : Nat) (x : RO), j ≠ i → H[j]? = some x → H'[j]? = some x) → H'[i]? = some (.inst "Container" (flds nm ld di ln wt kd co hz)) → Q .none H') :
    callU L04.g (n + 2) L04.g_Container___init__ [.ref i, .str nm, .int ld, .int di, .int ln, .int wt, .str kd, .bool co, .int hz] H Q := by
  obtain ⟨loc, hloc⟩ : ∃ loc, loc = [("self", RV.ref i), ("name", .str nm), ("load", .int ld), ("discharge", .int di), ("length", .int ln), ("weight", .int wt), ("kind", .str kd), ("cooled", .bool co), ("hazard", .int hz)] := ⟨_, rfl⟩
  have e0 : callU L04.g (n + 2) L04.g_Container___init__ [.ref i, .str nm, .int ld, .int di, .int ln, .int wt, .str kd, .bool co, .int hz] H Q = wpSs L04.g (callU L04.g (n + 1)) L04.g_Container___init__.body loc H fun fl _ H₁ => Q (retV fl) H₁ := by rw [hloc]; rfl
  rw [e0]
  have k1 : loc.lookup "self" = some (.ref i) := by rw [hloc]; rfl
  have k2 : loc.lookup "name" = some (.str nm) := by rw [hloc]; rfl
  have k3 : loc.lookup "load" = some (.int ld) := by rw [hloc]; rfl
  have k4 : loc.lookup "discharge" = some (.int di) := by rw [hloc]; rfl
  have k5 : loc.lookup "length" = some (.int ln) := by rw [hloc]; rfl
  have k6 : loc.lookup "weight" = some (.int wt) := by rw [hloc]; rfl
  have k7 : loc.lookup "kind" = some (.str kd) := by rw [hloc]; rfl
  have k8 : loc.lookup "cooled" = some (.bool co) := by rw [hloc]; rfl
  have k9 : loc.lookup "hazard" = some (.int hz) := by rw [hloc]; rfl
  clear e0 hloc
  have g1 : globR L04.g "is_word" = some (.fn "is_word") := rfl
  have g2 : globR L04.g "SHORT" = some (.int 20) := rfl
  have g3 : globR L04.g "LONG" = some (.int 40) := rfl
  have g4 : globR L04.g "HEIGHTS" = some (.fdict [(Str.ofString "plain", .int 26), (Str.ofString "high", .int 29)]) := rfl
  have g5 : L04.g.funs.lookup "is_word" = some L04.g_is_word := rfl
  simp only [L04.g_Container___init__, wpSs_nil, wpSs_cons, wpS_expr, wpS_ret, wpS_asg, wpS_asgAttr, wpS_asgSub, wpS_ite, wpS_raise, wpT_not, wpT_boolop, wpT_cmp, wpT_call, wpT_meth, wpT_comp1, wpTs_nil, wpTs_cons, wpE_const, wpE_loc, wpE_glb, wpE_boolop, wpE_bin, wpE_not, wpE_list, wpE_tup, wpE_dict0, wpE_comp1, wpE_cmp, wpE_call, wpE_meth, wpE_attr, wpE_sub, g1, g2, g3, g4, g5, k1, k2, k3, k4, k5, k6, k7, k8, k9, callable, callR, wpEs_nil, wpEs_cons, wpCmpT_one, wpCmpT_two, cmpP, decide_eq_false h1, decide_eq_false h2, decide_eq_false h3, decide_eq_false h4, decide_eq_false h5, Bool.false_eq_true, if_false, if_true, Option.isSome_some, true_and]
  refine is_word_ok hw fun H₁ kp => ?_
  have i1 : inP H₁ (.int ln) (.tup [.int 20, .int 40]) = some true := by rcases hln with rfl | rfl <;> rfl
  have i2 : inP H₁ (.str kd) (.fdict [(Str.ofString "plain", .int 26), (Str.ofString "high", .int 29)]) = some true := by rcases hkd with rfl | rfl <;> rfl
  simp only [truthR, i1, i2, Option.map_some, Bool.not_true, Bool.false_eq_true, if_false]
  refine ⟨by decide, ?_⟩
  have q0 := kp i _ hi
  have s1 := setf (G := L04.g) (x := "name") (v := .str nm) q0 rfl (by show (0 : Nat) < 900; decide)
  have q1 := at_set (.inst "Container" (setL "name" (.str nm) [])) q0
  have s2 := setf (G := L04.g) (x := "load") (v := .int ld) q1 rfl (by show (1 : Nat) < 900; decide)
  have q2 := at_set (.inst "Container" (setL "load" (.int ld) (setL "name" (.str nm) []))) q1
  have s3 := setf (G := L04.g) (x := "discharge") (v := .int di) q2 rfl (by show (2 : Nat) < 900; decide)
  have q3 := at_set (.inst "Container" (setL "discharge" (.int di) (setL "load" (.int ld) (setL "name" (.str nm) [])))) q2
  have s4 := setf (G := L04.g) (x := "length") (v := .int ln) q3 rfl (by show (3 : Nat) < 900; decide)
  have q4 := at_set (.inst "Container" (setL "length" (.int ln) (setL "discharge" (.int di) (setL "load" (.int ld) (setL "name" (.str nm) []))))) q3
  have s5 := setf (G := L04.g) (x := "weight") (v := .int wt) q4 rfl (by show (4 : Nat) < 900; decide)
  have q5 := at_set (.inst "Container" (setL "weight" (.int wt) (setL "length" (.int ln) (setL "discharge" (.int di) (setL "load" (.int ld) (setL "name" (.str nm) [])))))) q4
  have s6 := setf (G := L04.g) (x := "kind") (v := .str kd) q5 rfl (by show (5 : Nat) < 900; decide)
  have q6 := at_set (.inst "Container" (setL "kind" (.str kd) (setL "weight" (.int wt) (setL "length" (.int ln) (setL "discharge" (.int di) (setL "load" (.int ld) (setL "name" (.str nm) []))))))) q5
  have s7 := setf (G := L04.g) (x := "cooled") (v := .bool co) q6 rfl (by show (6 : Nat) < 900; decide)
  have q7 := at_set (.inst "Container" (setL "cooled" (.bool co) (setL "kind" (.str kd) (setL "weight" (.int wt) (setL "length" (.int ln) (setL "discharge" (.int di) (setL "load" (.int ld) (setL "name" (.str nm) [])))))))) q6
  have s8 := setf (G := L04.g) (x := "hazard") (v := .int hz) q7 rfl (by show (7 : Nat) < 900; decide)
  have q8 := at_set (.inst "Container" (setL "hazard" (.int hz) (setL "cooled" (.bool co) (setL "kind" (.str kd) (setL "weight" (.int wt) (setL "length" (.int ln) (setL "discharge" (.int di) (setL "load" (.int ld) (setL "name" (.str nm) []))))))))) q7
  simp only [s1, s2, s3, s4, s5, s6, s7, s8]
  simp only [List.set_set, retV]
  refine hq _ (fun j x hj hx => ?_) ?_
  · rw [at_set_ne _ (Ne.symm hj)]
    exact kp j x hx
  · exact (at_set _ q0).trans rfl

def ports : List RV := [.str (Str.ofString "p"), .str (Str.ofString "q"), .str (Str.ofString "r"), .str (Str.ofString "s")]
/-- what stands: the voyage, its containers -/
structure St (vi d : Nat) (cs : List (Str × Nat × Int × Int)) (H : RH) : Prop where
  v : H[vi]? = some (.inst "Voyage" [("ports", .tup ports), ("containers", .ref d)])
  d : H[d]? = some (.dict (cs.map fun c => (.str c.1, .ref c.2.1)))
  c : ∀ c ∈ cs, ∃ fs, H[c.2.1]? = some (.inst "Container" fs) ∧ fs.lookup "load" = some (.int c.2.2.1) ∧ fs.lookup "discharge" = some (.int c.2.2.2) ∧ fs.lookup "is_on_leg" = none
theorem St.keeps {vi d : Nat} {cs : List (Str × Nat × Int × Int)} {H H' : RH} (s : St vi d cs H) (k : Keeps' H H') : St vi d cs H' :=
  ⟨k _ _ s.v, k _ _ s.d, fun c hc => let ⟨fs, h, r⟩ := s.c c hc; ⟨fs, k _ _ h, r⟩⟩
theorem dget_cs (z : Str) : ∀ cs : List (Str × Nat × Int × Int), dget (cs.map fun c => (RV.str c.1, RV.ref c.2.1)) (.str z) = (cs.lookup z).map fun c => .ref c.1
  | [] => rfl
  | (x, v) :: es => by
    have ih := dget_cs z es
    unfold dget at ih ⊢
    have ke : ∀ y, keyEq (.str y) (.str z) = (y == z) := fun y => by simp [keyEq, toPD, toPD0, PyData.eqv]
    simp only [List.map_cons, List.find?_cons, ke, List.lookup_cons]
    by_cases h : x = z
    · subst h; simp
    · have h1 : (x == z) = false := by simpa using h
      have h2 : (z == x) = false := by simpa using fun e => h e.symm
      rw [h1, h2]
      exact ih
theorem putD_cs (z : Str) (r : Nat) (e : Int × Int) : ∀ cs : List (Str × Nat × Int × Int), cs.lookup z = none → putD (.str z) (.ref r) (cs.map fun c => (RV.str c.1, RV.ref c.2.1)) = (cs ++ [(z, r, e)]).map fun c => (RV.str c.1, RV.ref c.2.1)
  | [], _ => rfl
  | (x, v) :: es, h => by
    rw [List.lookup_cons] at h
    cases hx : z == x with
    | true => rw [hx] at h; cases h
    | false =>
      rw [hx] at h
      have ih := putD_cs z r e es h
      have ke : keyEq (.str x) (.str z) = false := by
        have : ¬ x = z := fun e => by subst e; simp at hx
        simp [keyEq, toPD, toPD0, PyData.eqv, this]
      simp only [List.map_cons, putD, ke, Bool.false_eq_true, if_false, ih, List.cons_append]
theorem keys_cs (cs : List (Str × Nat × Int × Int)) : (cs.map fun c => (RV.str c.1, RV.ref c.2.1)).all (fun p => keyOk p.1) = true := by
  rw [List.all_map]; exact List.all_eq_true.mpr fun _ _ => rfl
/-- a container is put into the voyage -/
theorem add_ok {n vi d r : Nat} {cs : List (Str × Nat × Int × Int)} {H : RH} {Q : PV} {fs : List (String × RV)} {nm : Str} {ld di : Int} (s : St vi d cs H) (hr : H[r]? = some (.inst "Container" fs)) (hd : d ≠ vi) (hrd : r ≠ d) (hcd : ∀ c ∈ cs, c.2.1 ≠ d) (hl : cs.length < 4000)
    (f1 : fs.lookup "name" = some (.str nm)) (f2 : fs.lookup "load" = some (.int ld)) (f3 : fs.lookup "discharge" = some (.int di)) (f4 : fs.lookup "is_on_leg" = none) (hdi : di < 4) (hn : cs.lookup nm = none)
    (hq : ∀ H', St vi d (cs ++ [(nm, r, ld, di)]) H' → H'.length = H.length → Q (.ref vi) H') : callU L04.g (n + 1) L04.g_Voyage_add [.ref vi, .ref r] H Q := by
  show wpSs L04.g (callU L04.g n) L04.g_Voyage_add.body [("self", .ref vi), ("container", .ref r)] H fun fl _ H₁ => Q (retV fl) H₁
  have k1 : List.lookup "self" [("self", RV.ref vi), ("container", .ref r)] = some (.ref vi) := rfl
  have k2 : List.lookup "container" [("self", RV.ref vi), ("container", .ref r)] = some (.ref r) := rfl
  generalize [("self", RV.ref vi), ("container", RV.ref r)] = loc at k1 k2 ⊢
  have a1 := getf (G := L04.g) hr (x := "name") rfl f1 (by intro y h; cases h)
  have a2 := getf (G := L04.g) hr (x := "discharge") rfl f3 (by intro y h; cases h)
  have a3 := getf (G := L04.g) s.v (x := "containers") (v := .ref d) rfl rfl (by intro y h; cases h)
  have a4 := getf (G := L04.g) s.v (x := "ports") (v := .tup ports) rfl rfl (by intro y h; cases h)
  have i1 : inP H (.str nm) (.ref d) = some false := by simp only [inP, s.d, keyOk, if_true, dget_cs, hn, Option.map_none, Option.isSome_none]
  have g1 : globR L04.g "len" = some (.bi "len") := rfl
  have d1 : decide ((4 : Int) ≤ di) = false := decide_eq_false (by omega)
  have s1 : setSub H (.ref d) (.str nm) (.ref r) = some (H.set d (.dict ((cs ++ [(nm, r, ld, di)]).map fun c => (.str c.1, .ref c.2.1)))) := by
    simp only [setSub, s.d]
    rw [keys_cs, show keyOk (.str nm) = true from rfl, List.length_map, decide_eq_true hl, putD_cs nm r (ld, di) cs hn]
    rfl
  simp only [L04.g_Voyage_add, wpSs_nil, wpSs_cons, wpS_expr, wpS_ret, wpS_asg, wpS_asgAttr, wpS_asgSub, wpS_ite, wpS_raise, wpT_not, wpT_boolop, wpT_cmp, wpT_call, wpT_meth, wpT_comp1, wpE_const, wpE_loc, wpE_glb, wpE_boolop, wpE_bin, wpE_not, wpE_list, wpE_tup, wpE_dict0, wpE_comp1, wpE_cmp, wpE_call, wpE_meth, wpE_attr, wpE_sub, k1, k2, a1, a2, a3, a4, wpCmpT_one, wpCmpT_two, cmpP, i1, Bool.false_eq_true, if_false, g1, callable, true_and, wpEs_nil, wpEs_cons, callR, biR, if_true, lenR]
  refine ⟨by decide, ?_⟩
  have d2 : decide (((ports.length : Nat) : Int) ≤ di) = false := d1
  simp only [d2, Bool.false_eq_true, if_false, s1, retV]
  refine hq _ ⟨?_, at_set _ s.d, fun c hc => ?_⟩ (by simp)
  · rw [at_set_ne _ hd]; exact s.v
  · rcases List.mem_append.mp hc with hc | hc
    · obtain ⟨fs', h1, h2⟩ := s.c c hc
      exact ⟨fs', by rw [at_set_ne _ (Ne.symm (hcd c hc))]; exact h1, h2⟩
    · simp only [List.mem_singleton] at hc
      subst hc
      exact ⟨fs, by rw [at_set_ne _ (Ne.symm hrd)]; exact hr, f2, f3, f4⟩

theorem strsP_cs (cs : List (Str × Nat × Int × Int)) : strsP ((cs.map fun c => (RV.str c.1, RV.ref c.2.1)).map (·.1)) = some (cs.map (·.1)) := by
  induction cs with
  | nil => rfl
  | cons c cs ih => simp only [List.map_cons, strsP, asStr, ih, Option.map_some]
theorem vnames_ok {n vi d : Nat} {cs : List (Str × Nat × Int × Int)} {H : RH} {Q : PV} (s : St vi d cs H) (hl : cs.length < 64)
    (hq : Q (.ref H.length) (H ++ [.list ((sortS (cs.map (·.1))).map .str)])) : callU L04.g (n + 1) L04.g_Voyage_names [.ref vi] H Q := by
  show wpSs L04.g (callU L04.g n) L04.g_Voyage_names.body [("self", .ref vi)] H fun fl _ H₁ => Q (retV fl) H₁
  have k1 : List.lookup "self" [("self", RV.ref vi)] = some (.ref vi) := rfl
  generalize [("self", RV.ref vi)] = loc at k1 ⊢
  have a3 := getf (G := L04.g) s.v (x := "containers") (v := .ref d) rfl rfl (by intro y h; cases h)
  have g1 : globR L04.g "sorted" = some (.bi "sorted") := rfl
  simp only [L04.g_Voyage_names, wpSs_nil, wpSs_cons, wpS_expr, wpS_ret, wpS_asg, wpS_asgAttr, wpS_asgSub, wpS_ite, wpS_raise, wpE_const, wpE_loc, wpE_glb, wpE_boolop, wpE_bin, wpE_not, wpE_list, wpE_tup, wpE_dict0, wpE_comp1, wpE_cmp, wpE_call, wpE_meth, wpE_attr, wpE_sub, k1, g1, callable, true_and, wpEs_nil, wpEs_cons, a3, callR, biR, show ("sorted" = "len") = False from by decide, show ("sorted" = "abs") = False from by decide, if_false, if_true, s.d, strsP_cs, List.length_map, retV]
  exact ⟨hl, hq⟩

def onL (cs : List (Str × Nat × Int × Int)) (leg : Int) (x : Str) : Bool := match cs.lookup x with
  | some c => decide (c.2.1 ≤ leg) && decide (leg < c.2.2)
  | none => false
def ldL (cs : List (Str × Nat × Int × Int)) (p : Int) (x : Str) : Bool := match cs.lookup x with
  | some c => decide (c.2.1 = p)
  | none => false
def diL (cs : List (Str × Nat × Int × Int)) (p : Int) (x : Str) : Bool := match cs.lookup x with
  | some c => decide (c.2.2 = p)
  | none => false
theorem lk_mem {cs : List (Str × Nat × Int × Int)} {x : Str} {c : Nat × Int × Int} (h : cs.lookup x = some c) : (x, c) ∈ cs := by
  induction cs with
  | nil => cases h
  | cons p r ih =>
    obtain ⟨y, v⟩ := p
    rw [List.lookup_cons] at h
    cases hq : x == y with
    | true => rw [hq] at h; cases h; rw [eq_of_beq hq]; exact .head _
    | false => rw [hq] at h; exact .tail _ (ih h)
theorem on_leg_ok {n vi d : Nat} {cs : List (Str × Nat × Int × Int)} {H : RH} {Q : PV} {leg : Int} (s : St vi d cs H) (hl : cs.length < 64) (hin : ∀ x ∈ sortS (cs.map (·.1)), ∃ c, cs.lookup x = some c)
    (hq : ∀ H', Keeps' H H' → ∀ i, H'[i]? = some (.list (((sortS (cs.map (·.1))).filter (onL cs leg)).map .str)) → Q (.ref i) H') : callU L04.g (n + 2) L04.g_Voyage_on_leg [.ref vi, .int leg] H Q := by
  show wpSs L04.g (callU L04.g (n + 1)) L04.g_Voyage_on_leg.body [("self", .ref vi), ("leg", .int leg)] H fun fl _ H₁ => Q (retV fl) H₁
  have k1 : List.lookup "self" [("self", RV.ref vi), ("leg", .int leg)] = some (.ref vi) := rfl
  have k2 : List.lookup "leg" [("self", RV.ref vi), ("leg", .int leg)] = some (.int leg) := rfl
  generalize [("self", RV.ref vi), ("leg", RV.int leg)] = loc at k1 k2 ⊢
  have m1 : methK L04.g H (.ref vi) "names" = some (.own L04.g_Voyage_names) := by simp only [methK, s.v]; rfl
  simp only [L04.g_Voyage_on_leg, wpSs_nil, wpSs_cons, wpS_expr, wpS_ret, wpS_asg, wpS_asgAttr, wpS_asgSub, wpS_ite, wpS_raise, wpE_const, wpE_loc, wpE_glb, wpE_boolop, wpE_bin, wpE_not, wpE_list, wpE_tup, wpE_dict0, wpE_comp1, wpE_cmp, wpE_call, wpE_meth, wpE_attr, wpE_sub, k1, m1, wpEs_nil, wpEs_cons]
  refine vnames_ok s hl ?_
  simp only [itemsR, at_last]
  have pl : ∀ l : List RV, placedB (H ++ [RO.list l]) (.ref H.length) = true := fun l => by simp only [placedB, at_last]
  refine ⟨pl _, by rw [List.length_map, (sortS_perm _).length_eq, List.length_map]; omega, ?_⟩
  refine turns_pick (p := onL cs leg) (H₀ := H ++ [.list ((sortS (cs.map (·.1))).map .str)]) _ _ _ (Keeps'.refl _) (fun H' hk => ?_) (fun x hx H' k hk hK => ?_) fun H' hk => ?_
  · show H'[_]? = _
    rw [at_last]; exact hk _ _ (at_last _ _)
  · obtain ⟨c, hc⟩ := hin x hx
    have s' := s.keeps ((Keeps'.app _ _).trans hk)
    obtain ⟨fs, c1, c2, c3, c4⟩ := s'.c _ (lk_mem hc)
    have k1' : (setL "name" (.str x) loc).lookup "self" = some (.ref vi) := by rw [lookup_set, if_neg (by decide)]; exact k1
    have k2' : (setL "name" (.str x) loc).lookup "leg" = some (.int leg) := by rw [lookup_set, if_neg (by decide)]; exact k2
    have k3' : (setL "name" (.str x) loc).lookup "name" = some (.str x) := by rw [lookup_set, if_pos rfl]
    have a3 := getf (G := L04.g) s'.v (x := "containers") (v := .ref d) rfl rfl (by intro y h; cases h)
    have b1 : subR H' (.ref d) (.str x) = some (.ref c.1) := by simp only [subR, s'.d, keyOk, if_true, dget_cs, hc, Option.map_some]
    generalize setL "name" (.str x) loc = loc' at k1' k2' k3' ⊢
    have m2 : methK L04.g H' (.ref c.1) "is_on_leg" = some (.own L04.g_Container_is_on_leg) := by simp only [methK, c1, c4]; rfl
    have a1 := getf (G := L04.g) c1 (x := "load") rfl c2 (by intro y h; cases h)
    have a2 := getf (G := L04.g) c1 (x := "discharge") rfl c3 (by intro y h; cases h)
    simp only [wpIfs_nil, wpIfs_cons, wpT_not, wpT_boolop, wpT_cmp, wpT_call, wpT_meth, wpT_comp1, wpE_const, wpE_loc, wpE_glb, wpE_boolop, wpE_bin, wpE_not, wpE_list, wpE_tup, wpE_dict0, wpE_comp1, wpE_cmp, wpE_call, wpE_meth, wpE_attr, wpE_sub, k1', k2', k3', a3, b1, m2, wpEs_nil, wpEs_cons]
    show wpSs L04.g (callU L04.g n) L04.g_Container_is_on_leg.body [("self", .ref c.1), ("leg", .int leg)] H' fun fl _ H₁ => _
    have j1 : List.lookup "self" [("self", RV.ref c.1), ("leg", .int leg)] = some (.ref c.1) := rfl
    have j2 : List.lookup "leg" [("self", RV.ref c.1), ("leg", .int leg)] = some (.int leg) := rfl
    generalize [("self", RV.ref c.1), ("leg", RV.int leg)] = loc2 at j1 j2 ⊢
    have hK' := hK H' (Keeps'.refl _)
    simp only [onL, hc] at hK'
    simp only [L04.g_Container_is_on_leg, wpSs_nil, wpSs_cons, wpS_expr, wpS_ret, wpS_asg, wpS_asgAttr, wpS_asgSub, wpS_ite, wpS_raise, wpE_const, wpE_loc, wpE_glb, wpE_boolop, wpE_bin, wpE_not, wpE_list, wpE_tup, wpE_dict0, wpE_comp1, wpE_cmp, wpE_call, wpE_meth, wpE_attr, wpE_sub, j1, a1, wpCmp_one, wpCmp_two, j2, cmpP]
    by_cases q1 : c.2.1 ≤ leg
    · simp only [decide_eq_true q1, a2, Bool.true_and, retV, truthR] at hK' ⊢
      cases hb : decide (leg < c.2.2) with
      | true => rw [hb] at hK'; simpa only [if_true] using hK'
      | false => rw [hb] at hK'; simpa only [Bool.false_eq_true, if_false] using hK'
    · simp only [decide_eq_false q1, Bool.false_and, retV, truthR, Bool.false_eq_true, if_false] at hK' ⊢
      exact hK'
  · exact hq _ (((Keeps'.app _ _).trans hk).trans (Keeps'.app H' _)) _ (at_last _ _)

theorem loaded_at_ok {n vi d : Nat} {cs : List (Str × Nat × Int × Int)} {H : RH} {Q : PV} {leg : Int} (s : St vi d cs H) (hl : cs.length < 64) (hin : ∀ x ∈ sortS (cs.map (·.1)), ∃ c, cs.lookup x = some c)
    (hq : ∀ H', Keeps' H H' → ∀ i, H'[i]? = some (.list (((sortS (cs.map (·.1))).filter (ldL cs leg)).map .str)) → Q (.ref i) H') : callU L04.g (n + 2) L04.g_Voyage_loaded_at [.ref vi, .int leg] H Q := by
  show wpSs L04.g (callU L04.g (n + 1)) L04.g_Voyage_loaded_at.body [("self", .ref vi), ("port", .int leg)] H fun fl _ H₁ => Q (retV fl) H₁
  have k1 : List.lookup "self" [("self", RV.ref vi), ("port", .int leg)] = some (.ref vi) := rfl
  have k2 : List.lookup "port" [("self", RV.ref vi), ("port", .int leg)] = some (.int leg) := rfl
  generalize [("self", RV.ref vi), ("port", RV.int leg)] = loc at k1 k2 ⊢
  have m1 : methK L04.g H (.ref vi) "names" = some (.own L04.g_Voyage_names) := by simp only [methK, s.v]; rfl
  simp only [L04.g_Voyage_loaded_at, wpSs_nil, wpSs_cons, wpS_expr, wpS_ret, wpS_asg, wpS_asgAttr, wpS_asgSub, wpS_ite, wpS_raise, wpE_const, wpE_loc, wpE_glb, wpE_boolop, wpE_bin, wpE_not, wpE_list, wpE_tup, wpE_dict0, wpE_comp1, wpE_cmp, wpE_call, wpE_meth, wpE_attr, wpE_sub, k1, m1, wpEs_nil, wpEs_cons]
  refine vnames_ok s hl ?_
  simp only [itemsR, at_last]
  have pl : ∀ l : List RV, placedB (H ++ [RO.list l]) (.ref H.length) = true := fun l => by simp only [placedB, at_last]
  refine ⟨pl _, by rw [List.length_map, (sortS_perm _).length_eq, List.length_map]; omega, ?_⟩
  refine turns_pick (p := ldL cs leg) (H₀ := H ++ [.list ((sortS (cs.map (·.1))).map .str)]) _ _ _ (Keeps'.refl _) (fun H' hk => ?_) (fun x hx H' k hk hK => ?_) fun H' hk => ?_
  · show H'[_]? = _
    rw [at_last]; exact hk _ _ (at_last _ _)
  · obtain ⟨c, hc⟩ := hin x hx
    have s' := s.keeps ((Keeps'.app _ _).trans hk)
    obtain ⟨fs, c1, c2, c3, c4⟩ := s'.c _ (lk_mem hc)
    have k1' : (setL "name" (.str x) loc).lookup "self" = some (.ref vi) := by rw [lookup_set, if_neg (by decide)]; exact k1
    have k2' : (setL "name" (.str x) loc).lookup "port" = some (.int leg) := by rw [lookup_set, if_neg (by decide)]; exact k2
    have k3' : (setL "name" (.str x) loc).lookup "name" = some (.str x) := by rw [lookup_set, if_pos rfl]
    have a3 := getf (G := L04.g) s'.v (x := "containers") (v := .ref d) rfl rfl (by intro y h; cases h)
    have b1 : subR H' (.ref d) (.str x) = some (.ref c.1) := by simp only [subR, s'.d, keyOk, if_true, dget_cs, hc, Option.map_some]
    generalize setL "name" (.str x) loc = loc' at k1' k2' k3' ⊢
    have a1 := getf (G := L04.g) c1 (x := "load") rfl c2 (by intro y h; cases h)
    have hK' := hK H' (Keeps'.refl _)
    simp only [ldL, hc] at hK'
    have q1 : eqP H' (.int c.2.1) (.int leg) = some (decide (c.2.1 = leg)) := by
      show (if (shaped (.int c.2.1) && shaped (.int leg)) = true then some (PyData.eqv (.int c.2.1) (.int leg)) else none) = _
      rw [if_pos (by rfl)]
      simp only [PyData.eqv]
      congr 1
    simp only [wpIfs_nil, wpIfs_cons, wpT_not, wpT_boolop, wpT_cmp, wpT_call, wpT_meth, wpT_comp1, wpE_const, wpE_loc, wpE_glb, wpE_boolop, wpE_bin, wpE_not, wpE_list, wpE_tup, wpE_dict0, wpE_comp1, wpE_cmp, wpE_call, wpE_meth, wpE_attr, wpE_sub, k1', k2', k3', a3, b1, a1, wpCmpT_one, wpCmpT_two, cmpP, q1]
    by_cases q2 : c.2.1 = leg
    · simp only [decide_eq_true q2, if_true] at hK' ⊢
      exact hK'
    · simp only [decide_eq_false q2, Bool.false_eq_true, if_false] at hK' ⊢
      exact hK'
  · exact hq _ (((Keeps'.app _ _).trans hk).trans (Keeps'.app H' _)) _ (at_last _ _)

theorem discharged_at_ok {n vi d : Nat} {cs : List (Str × Nat × Int × Int)} {H : RH} {Q : PV} {leg : Int} (s : St vi d cs H) (hl : cs.length < 64) (hin : ∀ x ∈ sortS (cs.map (·.1)), ∃ c, cs.lookup x = some c)
    (hq : ∀ H', Keeps' H H' → ∀ i, H'[i]? = some (.list (((sortS (cs.map (·.1))).filter (diL cs leg)).map .str)) → Q (.ref i) H') : callU L04.g (n + 2) L04.g_Voyage_discharged_at [.ref vi, .int leg] H Q := by
  show wpSs L04.g (callU L04.g (n + 1)) L04.g_Voyage_discharged_at.body [("self", .ref vi), ("port", .int leg)] H fun fl _ H₁ => Q (retV fl) H₁
  have k1 : List.lookup "self" [("self", RV.ref vi), ("port", .int leg)] = some (.ref vi) := rfl
  have k2 : List.lookup "port" [("self", RV.ref vi), ("port", .int leg)] = some (.int leg) := rfl
  generalize [("self", RV.ref vi), ("port", RV.int leg)] = loc at k1 k2 ⊢
  have m1 : methK L04.g H (.ref vi) "names" = some (.own L04.g_Voyage_names) := by simp only [methK, s.v]; rfl
  simp only [L04.g_Voyage_discharged_at, wpSs_nil, wpSs_cons, wpS_expr, wpS_ret, wpS_asg, wpS_asgAttr, wpS_asgSub, wpS_ite, wpS_raise, wpE_const, wpE_loc, wpE_glb, wpE_boolop, wpE_bin, wpE_not, wpE_list, wpE_tup, wpE_dict0, wpE_comp1, wpE_cmp, wpE_call, wpE_meth, wpE_attr, wpE_sub, k1, m1, wpEs_nil, wpEs_cons]
  refine vnames_ok s hl ?_
  simp only [itemsR, at_last]
  have pl : ∀ l : List RV, placedB (H ++ [RO.list l]) (.ref H.length) = true := fun l => by simp only [placedB, at_last]
  refine ⟨pl _, by rw [List.length_map, (sortS_perm _).length_eq, List.length_map]; omega, ?_⟩
  refine turns_pick (p := diL cs leg) (H₀ := H ++ [.list ((sortS (cs.map (·.1))).map .str)]) _ _ _ (Keeps'.refl _) (fun H' hk => ?_) (fun x hx H' k hk hK => ?_) fun H' hk => ?_
  · show H'[_]? = _
    rw [at_last]; exact hk _ _ (at_last _ _)
  · obtain ⟨c, hc⟩ := hin x hx
    have s' := s.keeps ((Keeps'.app _ _).trans hk)
    obtain ⟨fs, c1, c2, c3, c4⟩ := s'.c _ (lk_mem hc)
    have k1' : (setL "name" (.str x) loc).lookup "self" = some (.ref vi) := by rw [lookup_set, if_neg (by decide)]; exact k1
    have k2' : (setL "name" (.str x) loc).lookup "port" = some (.int leg) := by rw [lookup_set, if_neg (by decide)]; exact k2
    have k3' : (setL "name" (.str x) loc).lookup "name" = some (.str x) := by rw [lookup_set, if_pos rfl]
    have a3 := getf (G := L04.g) s'.v (x := "containers") (v := .ref d) rfl rfl (by intro y h; cases h)
    have b1 : subR H' (.ref d) (.str x) = some (.ref c.1) := by simp only [subR, s'.d, keyOk, if_true, dget_cs, hc, Option.map_some]
    generalize setL "name" (.str x) loc = loc' at k1' k2' k3' ⊢
    have a1 := getf (G := L04.g) c1 (x := "discharge") rfl c3 (by intro y h; cases h)
    have hK' := hK H' (Keeps'.refl _)
    simp only [diL, hc] at hK'
    have q1 : eqP H' (.int c.2.2) (.int leg) = some (decide (c.2.2 = leg)) := by
      show (if (shaped (.int c.2.2) && shaped (.int leg)) = true then some (PyData.eqv (.int c.2.2) (.int leg)) else none) = _
      rw [if_pos (by rfl)]
      simp only [PyData.eqv]
      congr 1
    simp only [wpIfs_nil, wpIfs_cons, wpT_not, wpT_boolop, wpT_cmp, wpT_call, wpT_meth, wpT_comp1, wpE_const, wpE_loc, wpE_glb, wpE_boolop, wpE_bin, wpE_not, wpE_list, wpE_tup, wpE_dict0, wpE_comp1, wpE_cmp, wpE_call, wpE_meth, wpE_attr, wpE_sub, k1', k2', k3', a3, b1, a1, wpCmpT_one, wpCmpT_two, cmpP, q1]
    by_cases q2 : c.2.2 = leg
    · simp only [decide_eq_true q2, if_true] at hK' ⊢
      exact hK'
    · simp only [decide_eq_false q2, Bool.false_eq_true, if_false] at hK' ⊢
      exact hK'
  · exact hq _ (((Keeps'.app _ _).trans hk).trans (Keeps'.app H' _)) _ (at_last _ _)

theorem idx_at {vs : List RV} {i : Nat} {H : RH} (k : Nat) {v : RV} (h : H[i]? = some (.list vs)) (hk : k < 1000) (hv : vs[k]? = some v) : subR H (.ref i) (.int (k : Int)) = some v := by
  have hl : k < vs.length := by
    by_cases q : k < vs.length
    · exact q
    · rw [List.getElem?_eq_none (by omega)] at hv; cases hv
  have e : idxR (k : Int) vs.length = some k := by
    unfold idxR
    rw [if_pos ⟨by omega, by omega, by omega⟩]
    rfl
  simp only [subR, h, e, Option.bind_some, hv]
def L04.e1 : RE := (.bin .Add (.const (.str (PySem.Str.ofString "c"))) (.call (.glb "str") [(.loc "k")]))
def L04.e2 : RE := (.loc "load")
def L04.e3 : RE := (.bin .Add (.bin .Add (.loc "load") (.const (.int 1))) (.bin .Mod (.call (.glb "_law_cell") [(.loc "script"), (.bin .Add (.bin .Mult (.const (.int 4)) (.loc "k")) (.const (.int 4)))]) (.bin .Sub (.const (.int 3)) (.loc "load"))))
def L04.e4 : RE := (.sub (.list [(.const (.int 20)), (.const (.int 40))]) (.bin .Mod (.call (.glb "_law_cell") [(.loc "script"), (.bin .Add (.bin .Mult (.const (.int 4)) (.loc "k")) (.const (.int 5)))]) (.const (.int 2))))
def L04.e5 : RE := (.bin .Add (.const (.int 1)) (.bin .Mod (.call (.glb "_law_cell") [(.loc "script"), (.bin .Add (.bin .Mult (.const (.int 4)) (.loc "k")) (.const (.int 6)))]) (.const (.int 15))))
def L04.e6 : RE := (.sub (.list [(.const (.str (PySem.Str.ofString "plain"))), (.const (.str (PySem.Str.ofString "high")))]) (.bin .Mod (.call (.glb "_law_cell") [(.loc "script"), (.bin .Add (.bin .Mult (.const (.int 4)) (.loc "k")) (.const (.int 3)))]) (.const (.int 2))))
def L04.e7 : RE := (.cmp (.bin .Mod (.call (.glb "_law_cell") [(.loc "script"), (.bin .Add (.bin .Mult (.const (.int 4)) (.loc "k")) (.const (.int 6)))]) (.const (.int 5))) [.Eq] [(.const (.int 0))])
def L04.e8 : RE := (.sub (.list [(.const (.int 0)), (.const (.int 0)), (.const (.int 1)), (.const (.int 2)), (.const (.int 4))]) (.bin .Mod (.call (.glb "_law_cell") [(.loc "script"), (.bin .Add (.bin .Mult (.const (.int 4)) (.loc "k")) (.const (.int 5)))]) (.const (.int 5))))
def L04.mkE : RE := .call (.glb "Container") [L04.e1, L04.e2, L04.e3, L04.e4, L04.e5, L04.e6, L04.e7, L04.e8]
def L04.bL1 : RT := .asg "load" (.bin .Mod (.call (.glb "_law_cell") [(.loc "script"), (.bin .Add (.bin .Mult (.const (.int 4)) (.loc "k")) (.const (.int 3)))]) (.const (.int 3)))
def L04.bL2 : RT := .expr (.meth (.loc "v") "add" [L04.mkE])
def bodyL : List RT := [L04.bL1, L04.bL2]
theorem mod_nn (a : Int) {m : Int} (h : 0 < m) : 0 ≤ Int.fmod a m ∧ Int.fmod a m < m := ⟨Int.fmod_nonneg_of_pos _ h, Int.fmod_lt_of_pos _ h⟩
theorem body_ok {n vi d : Nat} {cs : List (Str × Nat × Int × Int)} {H : RH} {Q : PF} {loc : Loc} {zs : List Int} {k : Int} {nm : Str} (hz : zs.length < 1000) (hk0 : 0 ≤ k) (hk6 : k < 6) (hnm : Str.ofString "c" ++ Str.ofString (toString k) = nm) (hw : Word nm)
    (l1 : loc.lookup "script" = some (.arg (zs.map .int))) (l2 : loc.lookup "v" = some (.ref vi)) (l3 : loc.lookup "k" = some (.int k))
    (s : St vi d cs H) (hd : d ≠ vi) (hcd : ∀ c ∈ cs, c.2.1 ≠ d) (hl : cs.length < 60) (hn : cs.lookup nm = none)
    (hq : ∀ H' r ld di, St vi d (cs ++ [(nm, r, ld, di)]) H' → r ≠ d → 0 ≤ ld → ld < di → di < 4 → Q .next (setL "load" (.int ld) loc) H') :
    wpSs L04.g (callU L04.g (n + 3)) bodyL loc H Q := by
  have g1 : globR L04.g "_law_cell" = some (.fn "_law_cell") := rfl
  have g2 : L04.g.funs.lookup "_law_cell" = some L04.g__law_cell := rfl
  have g3 : globR L04.g "Container" = some (.cls "Container") := rfl
  have g4 : globR L04.g "str" = some (.ty "str") := rfl
  have g5 : (L04.g.clss.lookup "Container").bind (·.ms.lookup "__init__") = some L04.g_Container___init__ := rfl
  have sm : ∀ x : Int, 0 ≤ x → x < 1000 → smallI x := fun x a b => by unfold smallI; omega
  have m1 : ∀ H', St vi d cs H' → methK L04.g H' (.ref vi) "add" = some (.own L04.g_Voyage_add) := fun H' s' => by simp only [methK, s'.v]; rfl
  simp only [bodyL, wpSs_nil, wpSs_cons]
  rw [L04.bL1]
  simp only [wpS_expr, wpS_ret, wpS_asg, wpS_asgAttr, wpS_asgSub, wpS_ite, wpS_raise, wpE_const, wpE_loc, wpE_glb, wpE_boolop, wpE_bin, wpE_not, wpE_list, wpE_tup, wpE_dict0, wpE_comp1, wpE_cmp, wpE_call, wpE_meth, wpE_attr, wpE_sub, wpEs_nil, wpEs_cons, g1, g2, callable, callR, l1, l3, b_mul, b_add, b_sub, b_mod, Option.isSome_some, true_and]
  refine ⟨sm 4 (by omega) (by omega), sm k hk0 (by omega), cell_ok (by omega) (by omega) hz ?_⟩
  generalize hc3 : zs.getD (4 * k + 3).toNat 0 = c3
  obtain ⟨a1, a2⟩ := mod_nn c3 (m := 3) (by omega)
  refine ⟨by omega, ?_⟩
  generalize hld : Int.fmod c3 3 = ld at a1 a2 ⊢
  have l1' : (setL "load" (.int ld) loc).lookup "script" = some (.arg (zs.map .int)) := by rw [lookup_set, if_neg (by decide)]; exact l1
  have l2' : (setL "load" (.int ld) loc).lookup "v" = some (.ref vi) := by rw [lookup_set, if_neg (by decide)]; exact l2
  have l3' : (setL "load" (.int ld) loc).lookup "k" = some (.int k) := by rw [lookup_set, if_neg (by decide)]; exact l3
  have l4' : (setL "load" (.int ld) loc).lookup "load" = some (.int ld) := by rw [lookup_set, if_pos rfl]
  have hq' : ∀ H' r di, St vi d (cs ++ [(nm, r, ld, di)]) H' → r ≠ d → ld < di → di < 4 → Q .next (setL "load" (.int ld) loc) H' := fun H' r di a b c e => hq H' r ld di a b a1 c e
  generalize setL "load" (.int ld) loc = loc' at l1' l2' l3' l4' hq' ⊢
  rw [L04.bL2]
  simp only [wpS_expr, wpS_ret, wpS_asg, wpS_asgAttr, wpS_asgSub, wpS_ite, wpS_raise, wpE_const, wpE_loc, wpE_glb, wpE_boolop, wpE_bin, wpE_not, wpE_list, wpE_tup, wpE_dict0, wpE_comp1, wpE_cmp, wpE_call, wpE_meth, wpE_attr, wpE_sub, l2', m1 H s, wpEs_nil, wpEs_cons]
  rw [L04.mkE]
  simp only [wpE_const, wpE_loc, wpE_glb, wpE_boolop, wpE_bin, wpE_not, wpE_list, wpE_tup, wpE_dict0, wpE_comp1, wpE_cmp, wpE_call, wpE_meth, wpE_attr, wpE_sub, g3, callable, g5, Option.isSome_some, true_and, wpEs_nil, wpEs_cons]
  have w1 : ∀ (H : RH) (Q : PV), Q (.str nm) H → wpE L04.g (callU L04.g (n + 3)) L04.e1 loc' H Q := fun H Q h => by
    rw [L04.e1]
    simp only [wpE_const, wpE_loc, wpE_glb, wpE_boolop, wpE_bin, wpE_not, wpE_list, wpE_tup, wpE_dict0, wpE_comp1, wpE_cmp, wpE_call, wpE_meth, wpE_attr, wpE_sub, g4, callable, true_and, wpEs_nil, wpEs_cons, l3', callR, tyR, show ("str" = "range") = False from by decide, show ("str" = "set") = False from by decide, show ("str" = "tuple") = False from by decide, if_false, if_true, b_cat]
    refine ⟨by omega, ?_⟩
    rw [hnm]
    exact ⟨by have := hw.l; have : sizeLine = 16777216 := by decide
              omega, h⟩
  have w2 : ∀ (H : RH) (Q : PV), Q (.int ld) H → wpE L04.g (callU L04.g (n + 3)) L04.e2 loc' H Q := fun H Q h => by
    rw [L04.e2]
    simp only [wpE_const, wpE_loc, wpE_glb, wpE_boolop, wpE_bin, wpE_not, wpE_list, wpE_tup, wpE_dict0, wpE_comp1, wpE_cmp, wpE_call, wpE_meth, wpE_attr, wpE_sub, l4']
    exact h
  have w3 : ∀ (H : RH) (Q : PV), (∀ di, ld < di → di < 4 → Q (.int di) H) → wpE L04.g (callU L04.g (n + 3)) L04.e3 loc' H Q := fun H Q h => by
    rw [L04.e3]
    simp only [wpE_const, wpE_loc, wpE_glb, wpE_boolop, wpE_bin, wpE_not, wpE_list, wpE_tup, wpE_dict0, wpE_comp1, wpE_cmp, wpE_call, wpE_meth, wpE_attr, wpE_sub, l4', b_mul, b_add, b_sub, g1, g2, callable, Option.isSome_some, true_and, wpEs_nil, wpEs_cons, l1', l3', callR]
    refine ⟨sm 4 (by omega) (by omega), sm k hk0 (by omega), cell_ok (by omega) (by omega) hz ?_⟩
    generalize zs.getD (4 * k + 4).toNat 0 = c4
    obtain ⟨b1, b2⟩ := mod_nn c4 (m := 3 - ld) (by omega)
    exact ⟨by omega, h _ (by omega) (by omega)⟩
  have cellI : ∀ (e : Int) (m : Int) (H : RH) (Q : PV), 0 ≤ e → e < 100 → 0 < m → (∀ x, 0 ≤ x → x < m → Q (.int x) H) → callU L04.g (n + 3) L04.g__law_cell [.arg (zs.map .int), .int e] H (fun v H₂ => binR .Mod v (.int m) H₂ Q) := fun e m H Q a b c h => by
    refine cell_ok a (by omega) hz ?_
    obtain ⟨b1, b2⟩ := mod_nn (zs.getD e.toNat 0) (m := m) c
    exact ⟨by omega, h _ b1 b2⟩
  have w4 : ∀ (H : RH) (Q : PV), (∀ v H', Keeps' H H' → (v = .int 20 ∨ v = .int 40) → Q v H') → wpE L04.g (callU L04.g (n + 3)) L04.e4 loc' H Q := fun H Q h => by
    rw [L04.e4]
    simp only [wpE_const, wpE_loc, wpE_glb, wpE_boolop, wpE_bin, wpE_not, wpE_list, wpE_tup, wpE_dict0, wpE_comp1, wpE_cmp, wpE_call, wpE_meth, wpE_attr, wpE_sub, wpEs_nil, wpEs_cons, g1, g2, callable, Option.isSome_some, true_and, l1', l3', callR]
    refine ⟨by decide, ?_⟩
    simp only [b_mul, b_add]
    refine ⟨sm 4 (by omega) (by omega), sm k hk0 (by omega), cellI (4 * k + 5) 2 _ _ (by omega) (by omega) (by omega) fun x x0 x1 => ?_⟩
    have : x = 0 ∨ x = 1 := by omega
    rcases this with rfl | rfl
    · have e := idx_at 0 (at_last H (.list [.int 20, .int 40])) (by omega) rfl
      simp only [show ((0 : Nat) : Int) = 0 from rfl] at e
      simp only [e]
      exact h _ _ (Keeps'.app _ _) (.inl rfl)
    · have e := idx_at 1 (at_last H (.list [.int 20, .int 40])) (by omega) rfl
      simp only [show ((1 : Nat) : Int) = 1 from rfl] at e
      simp only [e]
      exact h _ _ (Keeps'.app _ _) (.inr rfl)
  have w5 : ∀ (H : RH) (Q : PV), (∀ wt, ¬ wt < 1 → Q (.int wt) H) → wpE L04.g (callU L04.g (n + 3)) L04.e5 loc' H Q := fun H Q h => by
    rw [L04.e5]
    simp only [wpE_const, wpE_loc, wpE_glb, wpE_boolop, wpE_bin, wpE_not, wpE_list, wpE_tup, wpE_dict0, wpE_comp1, wpE_cmp, wpE_call, wpE_meth, wpE_attr, wpE_sub, wpEs_nil, wpEs_cons, g1, g2, callable, Option.isSome_some, true_and, l1', l3', callR, b_mul, b_add]
    refine ⟨sm 4 (by omega) (by omega), sm k hk0 (by omega), cell_ok (by omega) (by omega) hz ?_⟩
    obtain ⟨b1, b2⟩ := mod_nn (zs.getD (4 * k + 6).toNat 0) (m := 15) (by omega)
    exact ⟨by omega, h _ (by omega)⟩
  have w6 : ∀ (H : RH) (Q : PV), (∀ v H', Keeps' H H' → (v = .str (Str.ofString "plain") ∨ v = .str (Str.ofString "high")) → Q v H') → wpE L04.g (callU L04.g (n + 3)) L04.e6 loc' H Q := fun H Q h => by
    rw [L04.e6]
    simp only [wpE_const, wpE_loc, wpE_glb, wpE_boolop, wpE_bin, wpE_not, wpE_list, wpE_tup, wpE_dict0, wpE_comp1, wpE_cmp, wpE_call, wpE_meth, wpE_attr, wpE_sub, wpEs_nil, wpEs_cons, g1, g2, callable, Option.isSome_some, true_and, l1', l3', callR]
    refine ⟨by decide, ?_⟩
    simp only [b_mul, b_add]
    refine ⟨sm 4 (by omega) (by omega), sm k hk0 (by omega), cellI (4 * k + 3) 2 _ _ (by omega) (by omega) (by omega) fun x x0 x1 => ?_⟩
    have : x = 0 ∨ x = 1 := by omega
    rcases this with rfl | rfl
    · have e := idx_at 0 (at_last H (.list [.str (Str.ofString "plain"), .str (Str.ofString "high")])) (by omega) rfl
      simp only [show ((0 : Nat) : Int) = 0 from rfl] at e
      simp only [e]
      exact h _ _ (Keeps'.app _ _) (.inl rfl)
    · have e := idx_at 1 (at_last H (.list [.str (Str.ofString "plain"), .str (Str.ofString "high")])) (by omega) rfl
      simp only [show ((1 : Nat) : Int) = 1 from rfl] at e
      simp only [e]
      exact h _ _ (Keeps'.app _ _) (.inr rfl)
  have w7 : ∀ (H : RH) (Q : PV), (∀ b, Q (.bool b) H) → wpE L04.g (callU L04.g (n + 3)) L04.e7 loc' H Q := fun H Q h => by
    rw [L04.e7]
    simp only [wpE_const, wpE_loc, wpE_glb, wpE_boolop, wpE_bin, wpE_not, wpE_list, wpE_tup, wpE_dict0, wpE_comp1, wpE_cmp, wpE_call, wpE_meth, wpE_attr, wpE_sub, wpEs_nil, wpEs_cons, g1, g2, callable, Option.isSome_some, true_and, l1', l3', callR, b_mul, b_add, wpCmp_one, wpCmp_two]
    refine ⟨sm 4 (by omega) (by omega), sm k hk0 (by omega), cell_ok (by omega) (by omega) hz ?_⟩
    generalize zs.getD (4 * k + 6).toNat 0 = c
    refine ⟨by omega, ?_⟩
    have q1 : cmpP H .Eq (.int (Int.fmod c 5)) (.int 0) = some (PyData.eqv (.int (Int.fmod c 5)) (.int 0)) := by
      show (if (shaped (.int (Int.fmod c 5)) && shaped (.int 0)) = true then some (PyData.eqv (.int (Int.fmod c 5)) (.int 0)) else none) = _
      rw [if_pos (by rfl)]
    simp only [q1]
    exact h _
  have w8 : ∀ (H : RH) (Q : PV), (∀ v H', Keeps' H H' → (∃ hz, v = .int hz ∧ ¬ hz < 0 ∧ ¬ 4 < hz) → Q v H') → wpE L04.g (callU L04.g (n + 3)) L04.e8 loc' H Q := fun H Q h => by
    rw [L04.e8]
    simp only [wpE_const, wpE_loc, wpE_glb, wpE_boolop, wpE_bin, wpE_not, wpE_list, wpE_tup, wpE_dict0, wpE_comp1, wpE_cmp, wpE_call, wpE_meth, wpE_attr, wpE_sub, wpEs_nil, wpEs_cons, g1, g2, callable, Option.isSome_some, true_and, l1', l3', callR]
    refine ⟨by decide, ?_⟩
    simp only [b_mul, b_add]
    refine ⟨sm 4 (by omega) (by omega), sm k hk0 (by omega), cellI (4 * k + 5) 5 _ _ (by omega) (by omega) (by omega) fun x x0 x1 => ?_⟩
    have : x = 0 ∨ x = 1 ∨ x = 2 ∨ x = 3 ∨ x = 4 := by omega
    rcases this with rfl | rfl | rfl | rfl | rfl
    · have e := idx_at 0 (at_last H (.list [.int 0, .int 0, .int 1, .int 2, .int 4])) (by omega) rfl
      simp only [show ((0 : Nat) : Int) = 0 from rfl] at e
      simp only [e]
      exact h _ _ (Keeps'.app _ _) ⟨_, rfl, by decide, by decide⟩
    · have e := idx_at 1 (at_last H (.list [.int 0, .int 0, .int 1, .int 2, .int 4])) (by omega) rfl
      simp only [show ((1 : Nat) : Int) = 1 from rfl] at e
      simp only [e]
      exact h _ _ (Keeps'.app _ _) ⟨_, rfl, by decide, by decide⟩
    · have e := idx_at 2 (at_last H (.list [.int 0, .int 0, .int 1, .int 2, .int 4])) (by omega) rfl
      simp only [show ((2 : Nat) : Int) = 2 from rfl] at e
      simp only [e]
      exact h _ _ (Keeps'.app _ _) ⟨_, rfl, by decide, by decide⟩
    · have e := idx_at 3 (at_last H (.list [.int 0, .int 0, .int 1, .int 2, .int 4])) (by omega) rfl
      simp only [show ((3 : Nat) : Int) = 3 from rfl] at e
      simp only [e]
      exact h _ _ (Keeps'.app _ _) ⟨_, rfl, by decide, by decide⟩
    · have e := idx_at 4 (at_last H (.list [.int 0, .int 0, .int 1, .int 2, .int 4])) (by omega) rfl
      simp only [show ((4 : Nat) : Int) = 4 from rfl] at e
      simp only [e]
      exact h _ _ (Keeps'.app _ _) ⟨_, rfl, by decide, by decide⟩
  refine w1 _ _ (w2 _ _ (w3 _ _ fun di d1 d2 => w4 _ _ fun v4 H4 kp4 hv4 => w5 _ _ fun wt hwt => w6 _ _ fun v6 H6 kp6 hv6 => w7 _ _ fun co => w8 _ _ fun v8 H8 kp8 hv8 => ?_))
  obtain ⟨hz', rfl, hz1, hz2⟩ := hv8
  obtain ⟨ln, rfl, hln⟩ : ∃ ln, v4 = .int ln ∧ (ln = 20 ∨ ln = 40) := by
    rcases hv4 with rfl | rfl
    · exact ⟨_, rfl, .inl rfl⟩
    · exact ⟨_, rfl, .inr rfl⟩
  obtain ⟨kd, rfl, hkd⟩ : ∃ kd, v6 = .str kd ∧ (kd = Str.ofString "plain" ∨ kd = Str.ofString "high") := by
    rcases hv6 with rfl | rfl
    · exact ⟨_, rfl, .inl rfl⟩
    · exact ⟨_, rfl, .inr rfl⟩
  have s8 := s.keeps (kp4.trans (kp6.trans kp8))
  simp only [callR, g5]
  refine mk_ok (at_last _ _) hw hln hkd (by omega) (by omega) hwt hz1 hz2 fun H9 o9 r9 => ?_
  refine ⟨rfl, ?_⟩
  have lt : ∀ (j : Nat) (x : RO), H8[j]? = some x → j ≠ H8.length := fun j x e => by have := lt_of_at e; omega
  have s9 : St vi d cs H9 := by
    have up : ∀ (j : Nat) (x : RO), H8[j]? = some x → H9[j]? = some x := fun j x e => o9 j x (lt j x e) (at_old _ e)
    exact s8.keeps up
  refine add_ok s9 r9 hd (fun e => ?_) hcd (by omega) rfl rfl rfl rfl d2 hn fun H' s' _ => hq' H' _ di s' (fun e => ?_) d1 d2
  · exact absurd e.symm (lt _ _ s8.d)
  · exact absurd e.symm (lt _ _ s8.d)

def ck (k : Nat) : Str := Str.ofString "c" ++ Str.ofString (toString (k : Int))
theorem ck_word (k : Nat) (h : k < 6) : Word (ck k) := by
  have : k = 0 ∨ k = 1 ∨ k = 2 ∨ k = 3 ∨ k = 4 ∨ k = 5 := by omega
  rcases this with rfl | rfl | rfl | rfl | rfl | rfl <;> exact ⟨by decide +kernel, by decide +kernel, by decide +kernel, by decide +kernel, by decide +kernel⟩
theorem ck_new (k : Nat) (h : k < 6) : ∀ j < k, ck j ≠ ck k := by
  have : k = 0 ∨ k = 1 ∨ k = 2 ∨ k = 3 ∨ k = 4 ∨ k = 5 := by omega
  rcases this with rfl | rfl | rfl | rfl | rfl | rfl <;> decide +kernel
theorem lk_none {cs : List (Str × Nat × Int × Int)} {x : Str} (h : ∀ c ∈ cs, c.1 ≠ x) : cs.lookup x = none := by
  induction cs with
  | nil => rfl
  | cons c cs ih =>
    obtain ⟨y, v⟩ := c
    rw [List.lookup_cons]
    have : (x == y) = false := by
      have := h (y, v) (.head _)
      simpa using fun e : x = y => this e.symm
    rw [this]
    exact ih fun c hc => h c (.tail _ hc)
/-- the containers of the law -/
structure Cs (k : Nat) (d : Nat) (cs : List (Str × Nat × Int × Int)) : Prop where
  names : cs.map (·.1) = (List.range k).map ck
  away : ∀ c ∈ cs, c.2.1 ≠ d
  sane : ∀ c ∈ cs, 0 ≤ c.2.2.1 ∧ c.2.2.1 < c.2.2.2 ∧ c.2.2.2 < 4
theorem loop_ok {n vi d : Nat} {zs : List Int} {Q : PF} (hz : zs.length < 1000) (hd : d ≠ vi)
    (hq : ∀ H loc cs, St vi d cs H → Cs 6 d cs → loc.lookup "script" = some (.arg (zs.map .int)) → loc.lookup "v" = some (.ref vi) → Q .next loc H) :
    ∀ (j k : Nat) (cs : List (Str × Nat × Int × Int)) (H : RH) (loc : Loc), k + j = 6 → St vi d cs H → Cs k d cs → loc.lookup "script" = some (.arg (zs.map .int)) → loc.lookup "v" = some (.ref vi) →
    wpFor (fun l' H' Q' => wpSs L04.g (callU L04.g (n + 3)) bodyL l' H' Q') "k" (fun _ => True) ((List.range' k j).map fun (i : Nat) => RV.int (i : Int)) loc H Q
  | 0, k, cs, H, loc, hk, s, c, l1, l2 => by
    have : k = 6 := by omega
    subst this
    simp only [List.range'_zero, List.map_nil, wpFor]
    exact ⟨trivial, hq H loc cs s c l1 l2⟩
  | j + 1, k, cs, H, loc, hk, s, c, l1, l2 => by
    simp only [List.range'_succ, List.map_cons, wpFor]
    refine ⟨trivial, ?_⟩
    have l1' : (setL "k" (.int (k : Int)) loc).lookup "script" = some (.arg (zs.map .int)) := by rw [lookup_set, if_neg (by decide)]; exact l1
    have l2' : (setL "k" (.int (k : Int)) loc).lookup "v" = some (.ref vi) := by rw [lookup_set, if_neg (by decide)]; exact l2
    have l3' : (setL "k" (.int (k : Int)) loc).lookup "k" = some (.int (k : Int)) := by rw [lookup_set, if_pos rfl]
    generalize setL "k" (.int (k : Int)) loc = loc' at l1' l2' l3' ⊢
    have hlen : cs.length = k := by
      have := congrArg List.length c.names
      simpa using this
    refine body_ok (nm := ck k) hz (by omega) (by omega) rfl (ck_word k (by omega)) l1' l2' l3' s hd c.away (by omega) (lk_none fun q hq e => ?_) fun H' r ld di s' hr a1 a2 a3 => ?_
    · have : q.1 ∈ cs.map (·.1) := List.mem_map_of_mem hq
      rw [c.names] at this
      obtain ⟨i, hi, e'⟩ := List.mem_map.mp this
      exact ck_new k (by omega) i (List.mem_range.mp hi) (e'.trans e)
    · refine loop_ok hz hd hq j (k + 1) _ H' _ (by omega) s' ⟨?_, ?_, ?_⟩ ?_ ?_
      · rw [List.map_append, c.names, List.range_succ, List.map_append]; rfl
      · intro q hq
        rcases List.mem_append.mp hq with h | h
        · exact c.away q h
        · simp only [List.mem_singleton] at h; subst h; exact hr
      · intro q hq
        rcases List.mem_append.mp hq with h | h
        · exact c.sane q h
        · simp only [List.mem_singleton] at h; subst h; exact ⟨a1, a2, a3⟩
      · rw [lookup_set, if_neg (by decide)]; exact l1'
      · rw [lookup_set, if_neg (by decide)]; exact l2'

def restL : List RT := L04.g_law.body.drop 2
theorem names6 {cs : List (Str × Nat × Int × Int)} {d : Nat} (c : Cs 6 d cs) : sortS (cs.map (·.1)) = (List.range 6).map ck := by
  rw [c.names]; decide +kernel
theorem lk_of {cs : List (Str × Nat × Int × Int)} {x : Str} (h : x ∈ cs.map (·.1)) : ∃ c, cs.lookup x = some c := by
  induction cs with
  | nil => cases h
  | cons c cs ih =>
    obtain ⟨y, v⟩ := c
    rw [List.lookup_cons]
    cases hx : x == y with
    | true => exact ⟨_, rfl⟩
    | false =>
      rw [List.map_cons, List.mem_cons] at h
      rcases h with h | h
      · rw [h] at hx; simp at hx
      · exact ih h
theorem pairwise6 : ((List.range 6).map ck).Pairwise leT := by
  have : sortS ((List.range 6).map ck) = (List.range 6).map ck := by decide +kernel
  rw [← this]
  exact sortS_sorted _
theorem shaped_strs (l : List Str) (h : ∀ x ∈ l, PyData.strOk x = true) : shaped (.list (l.map .str)) = true := by
  have a : ∀ l : List Str, (∀ x ∈ l, PyData.strOk x = true) → PyData.canLayAll0 (l.map .str) = true := fun l => by
    induction l with
    | nil => intro _; rfl
    | cons x l ih => intro h; simp only [List.map_cons, PyData.canLayAll0, PyData.canLay0, h x (.head _), ih fun y hy => h y (.tail _ hy), Bool.and_self]
  have b : ∀ l : List Str, PyData.depthAll (l.map .str) = 0 := fun l => by
    induction l with
    | nil => rfl
    | cons x l ih => simp only [List.map_cons, PyData.depthAll, PyData.depth, ih, Nat.max_self]
  unfold shaped
  simp only [PyData.canLay0, a l h, PyData.depth, b]
  decide
theorem strOk6 : ∀ x ∈ (List.range 6).map ck, PyData.strOk x = true := by decide +kernel
theorem any_strs (x : Str) (l : List Str) : ((l.map PyData.str).any fun y => PyData.eqv y (.str x)) = l.contains x := by
  induction l with
  | nil => rfl
  | cons y l ih =>
    simp only [List.map_cons, List.any_cons, ih, List.contains_cons]
    congr 1
    simp only [PyData.eqv]
    by_cases h : y = x
    · subst h; simp
    · have h1 : (y == x) = false := by simpa using h
      have h2 : (x == y) = false := by simpa using fun e => h e.symm
      first | rw [h1, h2] | simp [h, h2]
theorem in_strs {H : RH} {i : Nat} {l : List Str} {x : Str} (h : H[i]? = some (.list (l.map .str))) (hl : ∀ y ∈ l, PyData.strOk y = true) (hx : PyData.strOk x = true) : inP H (.str x) (.ref i) = some (l.contains x) := by
  have s1 : shaped (.str x) = true := by unfold shaped; simp only [PyData.canLay0, hx, PyData.depth]; rfl
  simp only [inP, h, toPD, toPD0, toPDs_strs, s1, shaped_strs l hl, Bool.and_self, if_true, any_strs]
theorem b_lists {H : RH} {a b : Nat} {xs ys : List RV} {Q : PV} (h1 : H[a]? = some (.list xs)) (h2 : H[b]? = some (.list ys)) : binR .Add (.ref a) (.ref b) H Q = ((xs ++ ys).length ≤ sizeLine ∧ Q (.ref H.length) (H ++ [.list (xs ++ ys)])) := by
  simp only [binR, h1, h2]
theorem strsP_strs : ∀ l : List Str, strsP (l.map .str) = some l
  | [] => rfl
  | x :: l => by simp only [List.map_cons, strsP, asStr, strsP_strs l, Option.map_some]
theorem eq_strs {H : RH} {a b : Nat} {l : List Str} (h1 : H[a]? = some (.list (l.map .str))) (h2 : H[b]? = some (.list (l.map .str))) (hl : ∀ y ∈ l, PyData.strOk y = true) : cmpP H .Eq (.ref a) (.ref b) = some true := by
  have s := shaped_strs l hl
  have e : PyData.eqv (.list (l.map .str)) (.list (l.map .str)) = true := eqv_refl _ (by unfold shaped at s; simp only [Bool.and_eq_true] at s; exact s.1)
  simp only [cmpP, eqP, toPDH, h1, h2, toPDs_strs, Option.map_some, s, Bool.and_self, if_true, e]
theorem filter_sub {l : List Str} {p : Str → Bool} {P : Str → Prop} (h : ∀ x ∈ l, P x) : ∀ x ∈ l.filter p, P x := fun x hx => h x (List.mem_filter.mp hx).1
/-- the law's last part -/
theorem rest_ok {n vi d : Nat} {cs : List (Str × Nat × Int × Int)} {H : RH} {loc : Loc} {zs : List Int} (hz : zs.length < 1000) (s : St vi d cs H) (c : Cs 6 d cs) (l1 : loc.lookup "script" = some (.arg (zs.map .int))) (l2 : loc.lookup "v" = some (.ref vi)) :
    wpSs L04.g (callU L04.g (n + 3)) restL loc H fun fl _ _ => retV fl = .bool true := by
  have g1 : globR L04.g "_law_cell" = some (.fn "_law_cell") := rfl
  have g2 : L04.g.funs.lookup "_law_cell" = some L04.g__law_cell := rfl
  have hlen : cs.length < 64 := by
    have := congrArg List.length c.names
    simp at this; omega
  have hin : ∀ x ∈ sortS (cs.map (·.1)), ∃ c, cs.lookup x = some c := fun x hx => lk_of ((sortS_perm _).mem_iff.mp hx)
  show wpSs L04.g (callU L04.g (n + 3)) [_, _, _] loc H _
  rw [wpSs_cons]
  simp only [wpS_expr, wpS_ret, wpS_asg, wpS_asgAttr, wpS_asgSub, wpS_ite, wpS_raise, wpE_const, wpE_loc, wpE_glb, wpE_boolop, wpE_bin, wpE_not, wpE_list, wpE_tup, wpE_dict0, wpE_comp1, wpE_cmp, wpE_call, wpE_meth, wpE_attr, wpE_sub, wpEs_nil, wpEs_cons, g1, g2, callable, callR, l1, b_add, b_mod, Option.isSome_some, true_and]
  refine cell_ok (by omega) (by omega) hz ?_
  obtain ⟨a1, a2⟩ := mod_nn (zs.getD (0 : Int).toNat 0) (m := 2) (by omega)
  refine ⟨by omega, ?_⟩
  generalize Int.fmod (zs.getD (0 : Int).toNat 0) 2 = q at a1 a2 ⊢
  simp only [b_add]
  have l1' : (setL "p" (.int (1 + q)) loc).lookup "v" = some (.ref vi) := by rw [lookup_set, if_neg (by decide)]; exact l2
  have l2' : (setL "p" (.int (1 + q)) loc).lookup "p" = some (.int (1 + q)) := by rw [lookup_set, if_pos rfl]
  generalize setL "p" (.int (1 + q)) loc = loc' at l1' l2' ⊢
  generalize hp : 1 + q = p at l2' ⊢
  have m1 : ∀ H', St vi d cs H' → methK L04.g H' (.ref vi) "on_leg" = some (.own L04.g_Voyage_on_leg) := fun H' s' => by simp only [methK, s'.v]; rfl
  have m2 : ∀ H', St vi d cs H' → methK L04.g H' (.ref vi) "discharged_at" = some (.own L04.g_Voyage_discharged_at) := fun H' s' => by simp only [methK, s'.v]; rfl
  have m3 : ∀ H', St vi d cs H' → methK L04.g H' (.ref vi) "loaded_at" = some (.own L04.g_Voyage_loaded_at) := fun H' s' => by simp only [methK, s'.v]; rfl
  have nm6 := names6 c
  have ok6 := strOk6
  rw [← nm6] at ok6
  have pw6 := pairwise6
  rw [← nm6] at pw6
  rw [wpSs_cons]
  simp only [wpS_expr, wpS_ret, wpS_asg, wpS_asgAttr, wpS_asgSub, wpS_ite, wpS_raise]
  rw [wpE_comp1]
  simp only [wpE_const, wpE_loc, wpE_glb, wpE_boolop, wpE_bin, wpE_not, wpE_list, wpE_tup, wpE_dict0, wpE_comp1, wpE_cmp, wpE_call, wpE_meth, wpE_attr, wpE_sub, wpEs_nil, wpEs_cons, l1', l2', m1 H s, b_sub]
  refine on_leg_ok s hlen hin fun H1 k1 i1 hi1 => ?_
  have s1 := s.keeps k1
  simp only [itemsR, hi1]
  have hl6 : (sortS (cs.map (·.1))).length = 6 := by rw [nm6]; rfl
  refine ⟨by simp only [placedB, hi1], by rw [List.length_map]; have := List.length_filter_le (onL cs (p - 1)) (sortS (cs.map (·.1))); omega, ?_⟩
  refine turns_pick (p := fun x => !(diL cs p x)) (H₀ := H1) _ _ _ (Keeps'.refl _) (fun H' hk => ?_) (fun x hx H' k hk hK => ?_) fun H2 k2 => ?_
  · show H'[i1]? = H1[i1]?
    rw [hi1]; exact hk _ _ hi1
  · have hx' := (List.mem_filter.mp hx).1
    have s2 := s1.keeps hk
    have q1 : (setL "n" (.str x) loc').lookup "v" = some (.ref vi) := by rw [lookup_set, if_neg (by decide)]; exact l1'
    have q2 : (setL "n" (.str x) loc').lookup "p" = some (.int p) := by rw [lookup_set, if_neg (by decide)]; exact l2'
    have q3 : (setL "n" (.str x) loc').lookup "n" = some (.str x) := by rw [lookup_set, if_pos rfl]
    generalize setL "n" (.str x) loc' = loc2 at q1 q2 q3 ⊢
    simp only [wpIfs_nil, wpIfs_cons, wpT_not, wpT_boolop, wpT_cmp, wpT_call, wpT_meth, wpT_comp1, wpE_const, wpE_loc, wpE_glb, wpE_boolop, wpE_bin, wpE_not, wpE_list, wpE_tup, wpE_dict0, wpE_comp1, wpE_cmp, wpE_call, wpE_meth, wpE_attr, wpE_sub, q1, q2, q3, wpCmpT_one, wpCmpT_two, m2 H' s2, wpEs_nil, wpEs_cons]
    refine discharged_at_ok s2 hlen hin fun H3 k3 i3 hi3 => ?_
    have e1 : ((sortS (cs.map (·.1))).filter (diL cs p)).contains x = diL cs p x := by
      rw [Bool.eq_iff_iff, List.contains_iff_mem, List.mem_filter]
      exact ⟨fun h => h.2, fun h => ⟨hx', h⟩⟩
    have hK3 := hK H3 k3
    simp only [cmpP, in_strs hi3 (filter_sub ok6) (ok6 x hx'), e1, Option.map_some]
    cases hd : diL cs p x with
    | true => simp only [hd, Bool.not_true, Bool.false_eq_true, if_false] at hK3 ⊢; exact hK3
    | false => simp only [hd, Bool.not_false, if_true] at hK3 ⊢; exact hK3
  · simp only [List.nil_append]
    have s2 := s1.keeps k2
    generalize hA : ((sortS (cs.map (·.1))).filter (onL cs (p - 1))).filter (fun x => !(diL cs p x)) = A
    have hHa := at_last H2 (.list (A.map .str))
    have s3 := s2.keeps (Keeps'.app H2 [.list (A.map .str)])
    have q1 : (setL "kept" (.ref H2.length) loc').lookup "v" = some (.ref vi) := by rw [lookup_set, if_neg (by decide)]; exact l1'
    have q2 : (setL "kept" (.ref H2.length) loc').lookup "p" = some (.int p) := by rw [lookup_set, if_neg (by decide)]; exact l2'
    have q3 : (setL "kept" (.ref H2.length) loc').lookup "kept" = some (.ref H2.length) := by rw [lookup_set, if_pos rfl]
    generalize setL "kept" (.ref H2.length) loc' = loc2 at q1 q2 q3 ⊢
    generalize hH2 : H2 ++ [.list (A.map .str)] = H3 at hHa s3 ⊢
    generalize H2.length = ia at hHa q3
    have g3 : globR L04.g "sorted" = some (.bi "sorted") := rfl
    simp only [wpSs_nil, wpSs_cons, wpS_expr, wpS_ret, wpS_asg, wpS_asgAttr, wpS_asgSub, wpS_ite, wpS_raise]
    rw [wpE_cmp]
    simp only [wpE_const, wpE_loc, wpE_glb, wpE_boolop, wpE_bin, wpE_not, wpE_list, wpE_tup, wpE_dict0, wpE_comp1, wpE_cmp, wpE_call, wpE_meth, wpE_attr, wpE_sub, wpEs_nil, wpEs_cons, g3, callable, true_and, q1, q2, q3, m3 H3 s3]
    refine loaded_at_ok s3 hlen hin fun H4 k4 i4 hi4 => ?_
    have s4 := s3.keeps k4
    rw [b_lists (k4 _ _ hHa) hi4]
    have lA : A.length ≤ 6 := by rw [← hA, ← hl6]; exact Nat.le_trans (List.length_filter_le _ _) (List.length_filter_le _ _)
    have lB := List.length_filter_le (ldL cs p) (sortS (cs.map (·.1)))
    refine ⟨by simp only [List.length_append, List.length_map]; have : sizeLine = 16777216 := by decide
               omega, ?_⟩
    rw [← List.map_append]
    simp only [callR, biR, show ("sorted" = "len") = False from by decide, show ("sorted" = "abs") = False from by decide, if_false, if_true, at_last, strsP_strs]
    refine ⟨by rw [List.length_append]; omega, ?_⟩
    have hs5 := at_last (H4 ++ [RO.list ((A ++ (sortS (cs.map (·.1))).filter (ldL cs p)).map .str)]) (.list ((sortS (A ++ (sortS (cs.map (·.1))).filter (ldL cs p))).map .str))
    have s5 := s4.keeps ((Keeps'.app H4 [RO.list ((A ++ (sortS (cs.map (·.1))).filter (ldL cs p)).map .str)]).trans (Keeps'.app _ [.list ((sortS (A ++ (sortS (cs.map (·.1))).filter (ldL cs p))).map .str)]))
    generalize (H4 ++ [RO.list ((A ++ (sortS (cs.map (·.1))).filter (ldL cs p)).map .str)]) ++ [.list ((sortS (A ++ (sortS (cs.map (·.1))).filter (ldL cs p))).map .str)] = H5 at hs5 s5 ⊢
    generalize List.length (H4 ++ [RO.list ((A ++ (sortS (cs.map (·.1))).filter (ldL cs p)).map .str)]) = i5 at hs5 ⊢
    simp only [wpCmp_one, wpCmp_two, wpE_const, wpE_loc, wpE_glb, wpE_boolop, wpE_bin, wpE_not, wpE_list, wpE_tup, wpE_dict0, wpE_comp1, wpE_cmp, wpE_call, wpE_meth, wpE_attr, wpE_sub, q1, q2, m1 H5 s5, wpEs_nil, wpEs_cons]
    refine on_leg_ok s5 hlen hin fun H6 k6 i6 hi6 => ?_
    have e : sortS (A ++ (sortS (cs.map (·.1))).filter (ldL cs p)) = (sortS (cs.map (·.1))).filter (onL cs p) := by
      refine sortS_eq ?_ (pw6.sublist List.filter_sublist)
      rw [← hA, List.filter_filter]
      refine (filter_two _ _ (onL cs p) _ fun x hx => ?_).symm
      obtain ⟨v, hv⟩ := hin x hx
      obtain ⟨a, b, e⟩ := c.sane _ (lk_mem hv)
      simp only at a b e
      simp only [onL, ldL, diL, hv]
      rw [Bool.eq_iff_iff]
      simp only [Bool.or_eq_true, Bool.and_eq_true, Bool.not_eq_true', decide_eq_true_eq, decide_eq_false_iff_not, Bool.and_eq_false_imp]
      constructor
      · constructor
        · omega
        · omega
      · omega
    rw [e] at hs5
    simp only [eq_strs (k6 _ _ hs5) hi6 (filter_sub ok6), retV]

def pstr : List Str := [Str.ofString "p", Str.ofString "q", Str.ofString "r", Str.ofString "s"]
theorem p_word : ∀ x ∈ pstr, Word x := by
  intro x hx
  simp only [pstr, List.mem_cons, List.not_mem_nil, or_false] at hx
  rcases hx with rfl | rfl | rfl | rfl <;> exact ⟨by decide +kernel, by decide +kernel, by decide +kernel, by decide +kernel, by decide +kernel⟩
theorem init_ok {n vi li : Nat} {H : RH} {Q : PV} (hv : H[vi]? = some (.inst "Voyage" [])) (hl : H[li]? = some (.list ports)) (hvl : vi ≠ li) (hq : ∀ H' d, d ≠ vi → St vi d [] H' → Q .none H') : callU L04.g (n + 3) L04.g_Voyage___init__ [.ref vi, .ref li] H Q := by
  show wpSs L04.g (callU L04.g (n + 2)) L04.g_Voyage___init__.body [("self", .ref vi), ("ports", .ref li)] H fun fl _ H₁ => Q (retV fl) H₁
  have k1 : List.lookup "self" [("self", RV.ref vi), ("ports", .ref li)] = some (.ref vi) := rfl
  have k2 : List.lookup "ports" [("self", RV.ref vi), ("ports", .ref li)] = some (.ref li) := rfl
  generalize [("self", RV.ref vi), ("ports", RV.ref li)] = loc at k1 k2 ⊢
  have g1 : globR L04.g "len" = some (.bi "len") := rfl
  have g2 : globR L04.g "set" = some (.ty "set") := rfl
  have g3 : globR L04.g "tuple" = some (.ty "tuple") := rfl
  have g4 : globR L04.g "is_word" = some (.fn "is_word") := rfl
  have g5 : L04.g.funs.lookup "is_word" = some L04.g_is_word := rfl
  have e1 : ports.length = 4 := rfl
  have e2 : strsP ports = some pstr := rfl
  have e3 : (nubS pstr).length = 4 := by decide +kernel
  have e4 : pstr.length = 4 := rfl
  have c1 : ∀ H', cmpP H' .Lt (.int ((4 : Nat) : Int)) (.int 2) = some false := fun _ => rfl
  have c2 : ∀ H', cmpP H' .NotEq (.int ((4 : Nat) : Int)) (.int ((4 : Nat) : Int)) = some false := fun _ => rfl
  rw [L04.g_Voyage___init__]
  simp only [wpSs_nil, wpSs_cons]
  rw [wpS_ite, wpT_boolop]
  simp only [wpTs_nil, wpTs_cons, wpT_not, wpT_boolop, wpT_cmp, wpT_call, wpT_meth, wpT_comp1, wpE_const, wpE_loc, wpE_glb, wpE_boolop, wpE_bin, wpE_not, wpE_list, wpE_tup, wpE_dict0, wpE_comp1, wpE_cmp, wpE_call, wpE_meth, wpE_attr, wpE_sub, wpEs_nil, wpEs_cons, k1, k2, g1, g2, callable, true_and, callR, biR, tyR, if_true, lenR, hl, e1, wpCmpT_one, wpCmpT_two, c1, show ("set" = "range") = False from by decide, if_false, e2, e3, c2]
  refine ⟨by decide, by rw [e4]; decide, by decide, by decide, ?_⟩
  have e5 : ports = pstr.map .str := rfl
  simp only [itemsR, hl]
  refine ⟨by simp only [placedB, hl], by rw [e1]; decide, ?_⟩
  rw [e5]
  refine turns_pick (p := fun _ => false) (H₀ := H) _ _ _ (Keeps'.refl _) (fun H' hk => ?_) (fun x hx H' k hk hK => ?_) fun H2 kp2 => ?_
  · show H'[li]? = H[li]?
    rw [hl]; exact hk _ _ hl
  · have q1 : (setL "name" (.str x) loc).lookup "name" = some (.str x) := by rw [lookup_set, if_pos rfl]
    generalize setL "name" (.str x) loc = loc2 at q1 ⊢
    simp only [wpIfs_nil, wpIfs_cons, wpT_not, wpT_boolop, wpT_cmp, wpT_call, wpT_meth, wpT_comp1, wpE_const, wpE_loc, wpE_glb, wpE_boolop, wpE_bin, wpE_not, wpE_list, wpE_tup, wpE_dict0, wpE_comp1, wpE_cmp, wpE_call, wpE_meth, wpE_attr, wpE_sub, g4, callable, g5, Option.isSome_some, true_and, wpEs_nil, wpEs_cons, q1, callR]
    refine is_word_ok (p_word x hx) fun H3 k3 => ?_
    simp only [truthR, Bool.not_true, Bool.false_eq_true, if_false]
    exact hK H3 k3
  · have f1 : (List.filter (fun _ => false) pstr).map RV.str = [] := rfl
    simp only [f1, List.append_nil]
    have t1 : truthR (H2 ++ [RO.list []]) (.ref H2.length) = some false := by
      simp only [truthR, at_last]; rfl
    simp only [t1, if_true, Bool.false_eq_true, if_false]
    have v2 : (H2 ++ [RO.list []])[vi]? = some (.inst "Voyage" []) := at_old _ (kp2 _ _ hv)
    have l2 : (H2 ++ [RO.list []])[li]? = some (.list ports) := at_old _ (kp2 _ _ hl)
    generalize H2 ++ [RO.list []] = H3 at v2 l2 ⊢
    have st1 := setf (G := L04.g) (x := "ports") (v := .tup ports) v2 rfl (by show (0 : Nat) < 900; decide)
    have q1 := at_set (.inst "Voyage" (setL "ports" (.tup ports) [])) v2
    simp only [wpSs_nil, wpSs_cons, wpS_expr, wpS_ret, wpS_asg, wpS_asgAttr, wpS_asgSub, wpS_ite, wpS_raise, wpE_const, wpE_loc, wpE_glb, wpE_boolop, wpE_bin, wpE_not, wpE_list, wpE_tup, wpE_dict0, wpE_comp1, wpE_cmp, wpE_call, wpE_meth, wpE_attr, wpE_sub, wpEs_nil, wpEs_cons, g3, callable, true_and, k1, k2, callR, tyR, show ("tuple" = "range") = False from by decide, show ("tuple" = "set") = False from by decide, if_false, if_true, l2, e1, st1]
    refine ⟨by decide, ?_⟩
    have q2 := at_old (RO.dict []) q1
    have st2 := setf (G := L04.g) (x := "containers") (v := .ref (List.length (H3.set vi (.inst "Voyage" (setL "ports" (.tup ports) []))))) q2 rfl (by show (1 : Nat) < 900; decide)
    simp only [st2, retV]
    have dn : List.length (H3.set vi (.inst "Voyage" (setL "ports" (.tup ports) []))) ≠ vi := by
      have := lt_of_at v2
      simp; omega
    refine hq _ _ dn ⟨(at_set _ q2).trans rfl, ?_, fun c hc => by cases hc⟩
    rw [at_set_ne _ (Ne.symm dn)]
    exact at_last _ _

theorem core (zs : List Int) (h : ¬ (63 : Int) < zs.length) : callU L04.g (10 + 1) L04.g_law [.arg (zs.map RV.int)] [] fun v _ => v = .bool true := by
  have hz : zs.length < 1000 := by omega
  show wpSs L04.g (callU L04.g 10) L04.g_law.body [("script", .arg (zs.map RV.int))] [] fun fl _ _ => retV fl = .bool true
  have k1 : List.lookup "script" [("script", RV.arg (zs.map RV.int))] = some (.arg (zs.map .int)) := rfl
  generalize [("script", RV.arg (zs.map RV.int))] = loc at k1 ⊢
  have g1 : globR L04.g "Voyage" = some (.cls "Voyage") := rfl
  have g2 : (L04.g.clss.lookup "Voyage").bind (·.ms.lookup "__init__") = some L04.g_Voyage___init__ := rfl
  have g3 : globR L04.g "range" = some (.ty "range") := rfl
  show wpSs L04.g (callU L04.g 10) (_ :: .for_ "k" (.call (.glb "range") [(.const (.int 6))]) bodyL :: restL) loc [] _
  rw [wpSs_cons]
  simp only [wpS_expr, wpS_ret, wpS_asg, wpS_asgAttr, wpS_asgSub, wpS_ite, wpS_raise, wpE_const, wpE_loc, wpE_glb, wpE_boolop, wpE_bin, wpE_not, wpE_list, wpE_tup, wpE_dict0, wpE_comp1, wpE_cmp, wpE_call, wpE_meth, wpE_attr, wpE_sub, wpEs_nil, wpEs_cons, g1, callable, g2, Option.isSome_some, true_and, callR]
  refine ⟨by decide, ?_⟩
  refine init_ok (n := 7) (at_last _ _) (at_old _ (at_last [] _)) (by decide) fun H' d hd s => ⟨rfl, ?_⟩
  have l1 : (setL "v" (.ref 1) loc).lookup "script" = some (.arg (zs.map .int)) := by rw [lookup_set, if_neg (by decide)]; exact k1
  have l2 : (setL "v" (.ref 1) loc).lookup "v" = some (.ref 1) := by rw [lookup_set, if_pos rfl]
  have e0 : List.length (([] : RH) ++ [RO.list [RV.str (Str.ofString "p"), RV.str (Str.ofString "q"), RV.str (Str.ofString "r"), RV.str (Str.ofString "s")]]) = 1 := rfl
  rw [e0] at s hd ⊢
  generalize setL "v" (.ref 1) loc = loc2 at l1 l2 ⊢
  rw [wpSs_cons]
  simp only [wpS_expr, wpS_ret, wpS_asg, wpS_asgAttr, wpS_asgSub, wpS_ite, wpS_for, wpS_raise, wpE_const, wpE_loc, wpE_glb, wpE_boolop, wpE_bin, wpE_not, wpE_list, wpE_tup, wpE_dict0, wpE_comp1, wpE_cmp, wpE_call, wpE_meth, wpE_attr, wpE_sub, wpEs_nil, wpEs_cons, g3, callable, true_and, callR, tyR, if_true]
  refine ⟨⟨by decide, by decide⟩, ?_⟩
  have e6 : itemsR H' (.rng 0 6 1) = some ((List.range' 0 6).map fun (i : Nat) => RV.int (i : Int)) := rfl
  simp only [e6]
  refine ⟨by rfl, ?_⟩
  refine loop_ok (n := 7) hz hd (fun H2 loc3 cs s2 c2 a1 a2 => ?_) 6 0 [] H' loc2 rfl s ⟨rfl, (fun c hc => by cases hc), fun c hc => by cases hc⟩ l1 l2
  exact rest_ok (n := 7) hz s2 c2 a1 a2
end Mine

noncomputable section
namespace Mine.Hd
open PySem PySem.W PyProof.Rows
def nth (l : List Stmt) (n : Nat) : Stmt := l.getD n (.Pass default)
def inn : Stmt → List Stmt
  | .FunctionDef _ _ b .. => b
  | .ClassDef _ _ _ b .. => b
  | _ => []
def sar : Stmt → Arguments
  | .FunctionDef _ a .. => a
  | _ => ⟨[], [], none, [], [], none, []⟩
def ssc : Stmt → Scope
  | .FunctionDef _ _ _ _ _ _ s .. => s
  | .ClassDef _ _ _ _ _ _ s .. => s
  | _ => default
def noArgs : Arguments := ⟨[], [], none, [], [], none, []⟩
def en (P : Params) (x : Str) (t : Tok) (v : Value) : DictEntry := ⟨PyData.keyHash P x, .str x t, v⟩
def gs : Array GenState := Array.mk []
def dr : Drawn := {}
def bd : List Stmt := behindTheImports PySem.Challenge.pw_ui0503_04
def env : Env := { scope := PySem.Challenge.pw_ui0503_04.main.scope, locals := mainNs, globals := mainNs, cells := [], code := (.ref 13), frame := some 14 }
def cE : Code := .body bd env
def B : List Frame := [topFrame ⟨0, 0, 0, 0⟩]
def o11_0 (P : Params) : Obj := ⟨(.type "tuple"), none, (.seq #[] 0), #[]⟩
def o12_0 (P : Params) : Obj := ⟨.none, none, (.fields #[]), #[]⟩
def o13_0 (P : Params) : Obj := ⟨(.type "code"), none, (.fields #[(.str (.ofString "<module>") 182), (.str (.ofString "<module>") 183), (.str (.ofString "/claim/cut.py") 184), (.int 1 0), (.int 0 0), (.int 0 0), (.int 0 0), (.int 0 0), (.ref 11), (.bool false), (.int 181 0), (.ref 12), .none, .none, .none, .none, (.int 185 0), (.int 1 0), (.str (.ofString "/claim/cut.py") 186)]), #[]⟩
def o14_0 (P : Params) : Obj := ⟨(.type "frame"), none, .plain, #[(some (.ref 13)), (some (.ref 3)), (some (.ref 3)), none, (some (.str (.ofString "__main__") 164)), none, (some (.ref 0))]⟩
def Ha (P : Params) : Heap := ⟨⟨[PySem.W.boot_o_0 P, PySem.W.boot_o_1 P, PySem.W.boot_o_2 P, PySem.W.boot_o_3 P, PySem.W.boot_o_4 P, PySem.W.boot_o_5 P, PySem.W.boot_o_6 P, PySem.W.boot_o_7 P, PySem.W.boot_o_8 P, PySem.W.boot_o_9 P, PySem.W.boot_o_10 P, o11_0 P, o12_0 P, o13_0 P, o14_0 P]⟩, {}⟩
def T0 (P : Params) : BT := (.node (PySem.W.boot_o_0 P) (.node (PySem.W.boot_o_1 P) (.node (PySem.W.boot_o_3 P) (.node (PySem.W.boot_o_7 P) .nil .nil) (.node (o11_0 P) .nil .nil)) (.node (PySem.W.boot_o_5 P) (.node (PySem.W.boot_o_9 P) .nil .nil) (.node (o13_0 P) .nil .nil))) (.node (PySem.W.boot_o_2 P) (.node (PySem.W.boot_o_4 P) (.node (PySem.W.boot_o_8 P) .nil .nil) (.node (o12_0 P) .nil .nil)) (.node (PySem.W.boot_o_6 P) (.node (PySem.W.boot_o_10 P) .nil .nil) (.node (o14_0 P) .nil .nil))))
def o2_2 (P : Params) : Obj := ⟨.none, none, (.dict #[en P (.ofString "type.__subclasses__.Exception.0") 212 (.int 31 0), en P (.ofString "type.__subclasses__.Exception.n") 213 (.int 1 0)] 2), #[]⟩
def o3_2 (P : Params) : Obj := ⟨(.type "dict"), none, (.dict #[en P (.ofString "__name__") 165 (.str (.ofString "bayplan.cargo") 232), en P (.ofString "__doc__") 166 .none, en P (.ofString "__package__") 167 .none, en P (.ofString "__loader__") 168 (.builtin "__main__.__loader__#opaque"), en P (.ofString "__spec__") 169 .none, en P (.ofString "__annotations__") 170 (.ref 6), en P (.ofString "__builtins__") 171 (.ref 4), en P (.ofString "__file__") 173 (.str (.ofString "/claim/cut.py") 172), en P (.ofString "__cached__") 174 .none, en P (.ofString "_wall") 193 (.ref 21), en P (.ofString "StowError") 215 (.ref 31), en P (.ofString "CargoError") 231 (.ref 44), en P (.ofString "SHORT") 235 (.int 20 234), en P (.ofString "LONG") 237 (.int 40 236), en P (.ofString "HEIGHTS") 244 (.ref 47), en P (.ofString "is_word") 251 (.ref 54)] 16), #[]⟩
def o12_2 (P : Params) : Obj := ⟨.none, none, (.fields #[(.int 1 0), (.int 0 0), (.ref 20), (.int 5 0), (.int 0 0), (.ref 27), (.int 7 0), (.int 0 0), (.ref 40), (.int 13 0), (.int 0 0), (.ref 53)]), #[]⟩
def o15_2 (P : Params) : Obj := ⟨(.type "tuple"), none, (.seq #[] 0), #[]⟩
def o16_2 (P : Params) : Obj := ⟨.none, none, (.fields #[]), #[]⟩
def o17_2 (P : Params) : Obj := ⟨(.type "tuple"), none, (.seq #[(.str (.ofString "k") 190)] 0), #[]⟩
def o18_2 (P : Params) : Obj := ⟨(.type "tuple"), none, (.seq #[] 0), #[]⟩
def o19_2 (P : Params) : Obj := ⟨.none, none, (.func { name := (.ofString "_wall"), qualname := (.ofString "_wall"), params := (sar (nth bd 0)), body := (.stmts (inn (nth bd 0))), scope := (ssc (nth bd 0)), globals := 0, closure := [], defaults := .none, kwdefaults := .none, doc := .none, pyModule := .none, annotations := none, code := .none, closureTuple := .none, builtins := 0 }), #[]⟩
def o20_2 (P : Params) : Obj := ⟨(.type "code"), none, (.fields #[(.str (.ofString "_wall") 187), (.str (.ofString "_wall") 188), (.str (.ofString "/claim/cut.py") 189), (.int 1 0), (.int 1 0), (.int 0 0), (.int 0 0), (.int 3 0), (.ref 15), (.bool true), (.int 181 0), (.ref 16), .none, (.ref 17), (.ref 18), (.ref 19), (.int 191 0), (.int 1 0), (.str (.ofString "/claim/cut.py") 192)]), #[]⟩
def o21_2 (P : Params) : Obj := ⟨(.type "function"), none, (.func { name := (.ofString "_wall"), qualname := (.ofString "_wall"), params := (sar (nth bd 0)), body := (.stmts (inn (nth bd 0))), scope := (ssc (nth bd 0)), globals := 3, closure := [], defaults := .none, kwdefaults := .none, doc := .none, pyModule := (.str (.ofString "__main__") 164), annotations := none, code := (.ref 20), closureTuple := .none, builtins := 0 }), #[]⟩
def o22_2 (P : Params) : Obj := ⟨(.type "tuple"), none, (.seq #[(.type "Exception")] 0), #[]⟩
def o23_2 (P : Params) : Obj := ⟨(.type "builtin_function_or_method"), none, (.fields #[(.builtin "type.__prepare__"), (.type "type")]), #[]⟩
def o24_2 (P : Params) : Obj := ⟨(.type "dict"), none, (.dict #[en P (.ofString "__module__") 203 (.str (.ofString "bayplan.errors") 194), en P (.ofString "__qualname__") 205 (.str (.ofString "StowError") 204), en P (.ofString "__firstlineno__") 207 (.int 5 206), en P (.ofString "__static_attributes__") 208 (.ref 29)] 4), #[]⟩
def o25_2 (P : Params) : Obj := ⟨(.type "tuple"), none, (.seq #[] 0), #[]⟩
def o26_2 (P : Params) : Obj := ⟨.none, none, (.fields #[]), #[]⟩
def o27_2 (P : Params) : Obj := ⟨(.type "code"), none, (.fields #[(.str (.ofString "StowError") 198), (.str (.ofString "StowError") 199), (.str (.ofString "/claim/cut.py") 200), (.int 5 0), (.int 0 0), (.int 0 0), (.int 0 0), (.int 0 0), (.ref 25), (.bool false), (.int 181 0), (.ref 26), .none, .none, .none, .none, (.int 201 0), (.int 5 0), (.str (.ofString "/claim/cut.py") 202)]), #[]⟩
def o28_2 (P : Params) : Obj := ⟨(.type "frame"), none, .plain, #[(some (.ref 27)), (some (.ref 3)), (some (.ref 24)), none, (some (.str (.ofString "bayplan.errors") 194)), none, (some (.ref 0))]⟩
def o29_2 (P : Params) : Obj := ⟨(.type "tuple"), none, (.seq #[] 0), #[]⟩
def o30_2 (P : Params) : Obj := ⟨(.type "dict"), none, (.dict #[en P (.ofString "__module__") 203 (.str (.ofString "bayplan.errors") 194), en P (.ofString "__firstlineno__") 207 (.int 5 206), en P (.ofString "__static_attributes__") 208 (.ref 29), en P (.ofString "__weakref__") 210 (.ref 32), en P (.ofString "__doc__") 211 .none] 3), #[]⟩
def o31_2 (P : Params) : Obj := ⟨(.type "type"), none, (.cls { name := (.ofString "StowError"), bases := [(.type "Exception")], mro := [(.ref 31), (.type "Exception"), (.type "BaseException"), (.type "object")], ns := 30, qualname := (.ofString "StowError"), hasDict := true, slotNames := [], subclasses := [(.ref 44)], abstract := false, collection := none, hasDel := false }), #[(some (.ref 22)), none, (some (.str (.ofString "StowError") 196)), (some (.str (.ofString "StowError") 204)), (some (.builtin "Exception.__new__")), (some (.bool true))]⟩
def o32_2 (P : Params) : Obj := ⟨(.type "getset_descriptor"), none, (.fields #[(.str (.ofString "__weakref__") 209), (.ref 31), (.builtin "ExceptionGroup.__weakref__"), .none]), #[]⟩
def o33_2 (P : Params) : Obj := ⟨(.type "super"), none, (.fields #[(.ref 31), (.ref 31), (.ref 31)]), #[]⟩
def o34_2 (P : Params) : Obj := ⟨(.type "builtin_function_or_method"), none, (.fields #[(.builtin "object.__init_subclass__"), (.ref 31)]), #[]⟩
def o35_2 (P : Params) : Obj := ⟨(.type "tuple"), none, (.seq #[(.ref 31)] 0), #[]⟩
def o36_2 (P : Params) : Obj := ⟨(.type "builtin_function_or_method"), none, (.fields #[(.builtin "type.__prepare__"), (.type "type")]), #[]⟩
def o37_2 (P : Params) : Obj := ⟨(.type "dict"), none, (.dict #[en P (.ofString "__module__") 223 (.str (.ofString "bayplan.errors") 194), en P (.ofString "__qualname__") 225 (.str (.ofString "CargoError") 224), en P (.ofString "__firstlineno__") 227 (.int 7 226), en P (.ofString "__static_attributes__") 228 (.ref 42)] 4), #[]⟩
def o38_2 (P : Params) : Obj := ⟨(.type "tuple"), none, (.seq #[] 0), #[]⟩
def o39_2 (P : Params) : Obj := ⟨.none, none, (.fields #[]), #[]⟩
def o40_2 (P : Params) : Obj := ⟨(.type "code"), none, (.fields #[(.str (.ofString "CargoError") 218), (.str (.ofString "CargoError") 219), (.str (.ofString "/claim/cut.py") 220), (.int 7 0), (.int 0 0), (.int 0 0), (.int 0 0), (.int 0 0), (.ref 38), (.bool false), (.int 181 0), (.ref 39), .none, .none, .none, .none, (.int 221 0), (.int 7 0), (.str (.ofString "/claim/cut.py") 222)]), #[]⟩
def o41_2 (P : Params) : Obj := ⟨(.type "frame"), none, .plain, #[(some (.ref 40)), (some (.ref 3)), (some (.ref 37)), none, (some (.str (.ofString "bayplan.errors") 194)), none, (some (.ref 0))]⟩
def o42_2 (P : Params) : Obj := ⟨(.type "tuple"), none, (.seq #[] 0), #[]⟩
def o43_2 (P : Params) : Obj := ⟨(.type "dict"), none, (.dict #[en P (.ofString "__module__") 223 (.str (.ofString "bayplan.errors") 194), en P (.ofString "__firstlineno__") 227 (.int 7 226), en P (.ofString "__static_attributes__") 228 (.ref 42), en P (.ofString "__doc__") 229 .none] 2), #[]⟩
def o44_2 (P : Params) : Obj := ⟨(.type "type"), none, (.cls { name := (.ofString "CargoError"), bases := [(.ref 31)], mro := [(.ref 44), (.ref 31), (.type "Exception"), (.type "BaseException"), (.type "object")], ns := 43, qualname := (.ofString "CargoError"), hasDict := true, slotNames := [], subclasses := [], abstract := false, collection := none, hasDel := false }), #[(some (.ref 35)), none, (some (.str (.ofString "CargoError") 216)), (some (.str (.ofString "CargoError") 224)), (some (.builtin "Exception.__new__")), (some (.bool true))]⟩
def o45_2 (P : Params) : Obj := ⟨(.type "super"), none, (.fields #[(.ref 44), (.ref 44), (.ref 44)]), #[]⟩
def o46_2 (P : Params) : Obj := ⟨(.type "builtin_function_or_method"), none, (.fields #[(.builtin "object.__init_subclass__"), (.ref 44)]), #[]⟩
def o47_2 (P : Params) : Obj := ⟨(.type "dict"), none, (.dict #[en P (.ofString "plain") 238 (.int 26 239), en P (.ofString "high") 240 (.int 29 241)] 2), #[]⟩
def o48_2 (P : Params) : Obj := ⟨(.type "tuple"), none, (.seq #[] 0), #[]⟩
def o49_2 (P : Params) : Obj := ⟨.none, none, (.fields #[]), #[]⟩
def o50_2 (P : Params) : Obj := ⟨(.type "tuple"), none, (.seq #[(.str (.ofString "name") 248)] 0), #[]⟩
def o51_2 (P : Params) : Obj := ⟨(.type "tuple"), none, (.seq #[] 0), #[]⟩
def o52_2 (P : Params) : Obj := ⟨.none, none, (.func { name := (.ofString "is_word"), qualname := (.ofString "is_word"), params := (sar (nth bd 8)), body := (.stmts (inn (nth bd 8))), scope := (ssc (nth bd 8)), globals := 0, closure := [], defaults := .none, kwdefaults := .none, doc := .none, pyModule := .none, annotations := none, code := .none, closureTuple := .none, builtins := 0 }), #[]⟩
def o53_2 (P : Params) : Obj := ⟨(.type "code"), none, (.fields #[(.str (.ofString "is_word") 245), (.str (.ofString "is_word") 246), (.str (.ofString "/claim/cut.py") 247), (.int 13 0), (.int 1 0), (.int 0 0), (.int 0 0), (.int 3 0), (.ref 48), (.bool true), (.int 181 0), (.ref 49), .none, (.ref 50), (.ref 51), (.ref 52), (.int 249 0), (.int 13 0), (.str (.ofString "/claim/cut.py") 250)]), #[]⟩
def o54_2 (P : Params) : Obj := ⟨(.type "function"), none, (.func { name := (.ofString "is_word"), qualname := (.ofString "is_word"), params := (sar (nth bd 8)), body := (.stmts (inn (nth bd 8))), scope := (ssc (nth bd 8)), globals := 3, closure := [], defaults := .none, kwdefaults := .none, doc := .none, pyModule := (.str (.ofString "bayplan.cargo") 232), annotations := none, code := (.ref 53), closureTuple := .none, builtins := 0 }), #[]⟩
def T1 (P : Params) : BT := (.node (PySem.W.boot_o_0 P) (.node (PySem.W.boot_o_1 P) (.node (o3_2 P) (.node (PySem.W.boot_o_7 P) (.node (o15_2 P) (.node (o31_2 P) .nil .nil) (.node (o47_2 P) .nil .nil)) (.node (o23_2 P) (.node (o39_2 P) .nil .nil) .nil)) (.node (o11_0 P) (.node (o19_2 P) (.node (o35_2 P) .nil .nil) (.node (o51_2 P) .nil .nil)) (.node (o27_2 P) (.node (o43_2 P) .nil .nil) .nil))) (.node (PySem.W.boot_o_5 P) (.node (PySem.W.boot_o_9 P) (.node (o17_2 P) (.node (o33_2 P) .nil .nil) (.node (o49_2 P) .nil .nil)) (.node (o25_2 P) (.node (o41_2 P) .nil .nil) .nil)) (.node (o13_0 P) (.node (o21_2 P) (.node (o37_2 P) .nil .nil) (.node (o53_2 P) .nil .nil)) (.node (o29_2 P) (.node (o45_2 P) .nil .nil) .nil)))) (.node (o2_2 P) (.node (PySem.W.boot_o_4 P) (.node (PySem.W.boot_o_8 P) (.node (o16_2 P) (.node (o32_2 P) .nil .nil) (.node (o48_2 P) .nil .nil)) (.node (o24_2 P) (.node (o40_2 P) .nil .nil) .nil)) (.node (o12_2 P) (.node (o20_2 P) (.node (o36_2 P) .nil .nil) (.node (o52_2 P) .nil .nil)) (.node (o28_2 P) (.node (o44_2 P) .nil .nil) .nil))) (.node (PySem.W.boot_o_6 P) (.node (PySem.W.boot_o_10 P) (.node (o18_2 P) (.node (o34_2 P) .nil .nil) (.node (o50_2 P) .nil .nil)) (.node (o26_2 P) (.node (o42_2 P) .nil .nil) .nil)) (.node (o14_0 P) (.node (o22_2 P) (.node (o38_2 P) .nil .nil) (.node (o54_2 P) .nil .nil)) (.node (o30_2 P) (.node (o46_2 P) .nil .nil) .nil)))))
def o3_3 (P : Params) : Obj := ⟨(.type "dict"), none, (.dict #[en P (.ofString "__name__") 165 (.str (.ofString "bayplan.cargo") 232), en P (.ofString "__doc__") 166 .none, en P (.ofString "__package__") 167 .none, en P (.ofString "__loader__") 168 (.builtin "__main__.__loader__#opaque"), en P (.ofString "__spec__") 169 .none, en P (.ofString "__annotations__") 170 (.ref 6), en P (.ofString "__builtins__") 171 (.ref 4), en P (.ofString "__file__") 173 (.str (.ofString "/claim/cut.py") 172), en P (.ofString "__cached__") 174 .none, en P (.ofString "_wall") 193 (.ref 21), en P (.ofString "StowError") 215 (.ref 31), en P (.ofString "CargoError") 231 (.ref 44), en P (.ofString "SHORT") 235 (.int 20 234), en P (.ofString "LONG") 237 (.int 40 236), en P (.ofString "HEIGHTS") 244 (.ref 47), en P (.ofString "is_word") 251 (.ref 54), en P (.ofString "Container") 363 (.ref 135)] 17), #[]⟩
def o12_3 (P : Params) : Obj := ⟨.none, none, (.fields #[(.int 1 0), (.int 0 0), (.ref 20), (.int 5 0), (.int 0 0), (.ref 27), (.int 7 0), (.int 0 0), (.ref 40), (.int 13 0), (.int 0 0), (.ref 53), (.int 15 0), (.int 0 0), (.ref 60)]), #[]⟩
def o55_3 (P : Params) : Obj := ⟨(.type "tuple"), none, (.seq #[] 0), #[]⟩
def o56_3 (P : Params) : Obj := ⟨(.type "builtin_function_or_method"), none, (.fields #[(.builtin "type.__prepare__"), (.type "type")]), #[]⟩
def o57_3 (P : Params) : Obj := ⟨(.type "dict"), none, (.dict #[en P (.ofString "__module__") 259 (.str (.ofString "bayplan.cargo") 232), en P (.ofString "__qualname__") 261 (.str (.ofString "Container") 260), en P (.ofString "__firstlineno__") 263 (.int 15 262), en P (.ofString "__init__") 281 (.ref 69), en P (.ofString "__repr__") 288 (.ref 76), en P (.ofString "key") 295 (.ref 83), en P (.ofString "__eq__") 303 (.ref 90), en P (.ofString "__hash__") 310 (.ref 97), en P (.ofString "height") 317 (.ref 104), en P (.ofString "is_long") 324 (.ref 111), en P (.ofString "slots") 332 (.ref 118), en P (.ofString "weight_on") 339 (.ref 125), en P (.ofString "is_on_leg") 347 (.ref 132), en P (.ofString "__static_attributes__") 356 (.ref 133)] 14), #[]⟩
def o58_3 (P : Params) : Obj := ⟨(.type "tuple"), none, (.seq #[] 0), #[]⟩
def o59_3 (P : Params) : Obj := ⟨.none, none, (.fields #[(.int 17 0), (.int 4 0), (.ref 68), (.int 39 0), (.int 4 0), (.ref 75), (.int 42 0), (.int 4 0), (.ref 82), (.int 45 0), (.int 4 0), (.ref 89), (.int 50 0), (.int 4 0), (.ref 96), (.int 53 0), (.int 4 0), (.ref 103), (.int 56 0), (.int 4 0), (.ref 110), (.int 59 0), (.int 4 0), (.ref 117), (.int 62 0), (.int 4 0), (.ref 124), (.int 65 0), (.int 4 0), (.ref 131)]), #[]⟩
def o60_3 (P : Params) : Obj := ⟨(.type "code"), none, (.fields #[(.str (.ofString "Container") 254), (.str (.ofString "Container") 255), (.str (.ofString "/claim/cut.py") 256), (.int 15 0), (.int 0 0), (.int 0 0), (.int 0 0), (.int 0 0), (.ref 58), (.bool false), (.int 181 0), (.ref 59), .none, .none, .none, .none, (.int 257 0), (.int 15 0), (.str (.ofString "/claim/cut.py") 258)]), #[]⟩
def o61_3 (P : Params) : Obj := ⟨(.type "frame"), none, .plain, #[(some (.ref 60)), (some (.ref 3)), (some (.ref 57)), none, (some (.str (.ofString "bayplan.cargo") 232)), none, (some (.ref 0))]⟩
def o62_3 (P : Params) : Obj := ⟨(.type "tuple"), none, (.seq #[(.int 20 234), (.int 10 264), (.str (.ofString "plain") 265), (.bool false), (.int 0 266)] 0), #[]⟩
def o63_3 (P : Params) : Obj := ⟨(.type "tuple"), none, (.seq #[] 0), #[]⟩
def o64_3 (P : Params) : Obj := ⟨.none, none, (.fields #[]), #[]⟩
def o65_3 (P : Params) : Obj := ⟨(.type "tuple"), none, (.seq #[(.str (.ofString "self") 270), (.str (.ofString "name") 271), (.str (.ofString "load") 272), (.str (.ofString "discharge") 273), (.str (.ofString "length") 274), (.str (.ofString "weight") 275), (.str (.ofString "kind") 276), (.str (.ofString "cooled") 277), (.str (.ofString "hazard") 278)] 0), #[]⟩
def o66_3 (P : Params) : Obj := ⟨(.type "tuple"), none, (.seq #[] 0), #[]⟩
def o67_3 (P : Params) : Obj := ⟨.none, none, (.func { name := (.ofString "__init__"), qualname := (.ofString "Container.__init__"), params := (sar (nth (inn (nth bd 9)) 0)), body := (.stmts (inn (nth (inn (nth bd 9)) 0))), scope := (ssc (nth (inn (nth bd 9)) 0)), globals := 0, closure := [], defaults := .none, kwdefaults := .none, doc := .none, pyModule := .none, annotations := none, code := .none, closureTuple := .none, builtins := 0 }), #[]⟩
def o68_3 (P : Params) : Obj := ⟨(.type "code"), none, (.fields #[(.str (.ofString "__init__") 267), (.str (.ofString "Container.__init__") 268), (.str (.ofString "/claim/cut.py") 269), (.int 17 0), (.int 9 0), (.int 0 0), (.int 0 0), (.int 3 0), (.ref 63), (.bool true), (.int 181 0), (.ref 64), .none, (.ref 65), (.ref 66), (.ref 67), (.int 279 0), (.int 17 0), (.str (.ofString "/claim/cut.py") 280)]), #[]⟩
def o69_3 (P : Params) : Obj := ⟨(.type "function"), none, (.func { name := (.ofString "__init__"), qualname := (.ofString "Container.__init__"), params := (sar (nth (inn (nth bd 9)) 0)), body := (.stmts (inn (nth (inn (nth bd 9)) 0))), scope := (ssc (nth (inn (nth bd 9)) 0)), globals := 3, closure := [], defaults := (.ref 62), kwdefaults := .none, doc := .none, pyModule := (.str (.ofString "bayplan.cargo") 232), annotations := none, code := (.ref 68), closureTuple := .none, builtins := 0 }), #[]⟩
def o70_3 (P : Params) : Obj := ⟨(.type "tuple"), none, (.seq #[] 0), #[]⟩
def o71_3 (P : Params) : Obj := ⟨.none, none, (.fields #[]), #[]⟩
def o72_3 (P : Params) : Obj := ⟨(.type "tuple"), none, (.seq #[(.str (.ofString "self") 285)] 0), #[]⟩
def o73_3 (P : Params) : Obj := ⟨(.type "tuple"), none, (.seq #[] 0), #[]⟩
def o74_3 (P : Params) : Obj := ⟨.none, none, (.func { name := (.ofString "__repr__"), qualname := (.ofString "Container.__repr__"), params := (sar (nth (inn (nth bd 9)) 1)), body := (.stmts (inn (nth (inn (nth bd 9)) 1))), scope := (ssc (nth (inn (nth bd 9)) 1)), globals := 0, closure := [], defaults := .none, kwdefaults := .none, doc := .none, pyModule := .none, annotations := none, code := .none, closureTuple := .none, builtins := 0 }), #[]⟩
def o75_3 (P : Params) : Obj := ⟨(.type "code"), none, (.fields #[(.str (.ofString "__repr__") 282), (.str (.ofString "Container.__repr__") 283), (.str (.ofString "/claim/cut.py") 284), (.int 39 0), (.int 1 0), (.int 0 0), (.int 0 0), (.int 3 0), (.ref 70), (.bool true), (.int 181 0), (.ref 71), .none, (.ref 72), (.ref 73), (.ref 74), (.int 286 0), (.int 39 0), (.str (.ofString "/claim/cut.py") 287)]), #[]⟩
def o76_3 (P : Params) : Obj := ⟨(.type "function"), none, (.func { name := (.ofString "__repr__"), qualname := (.ofString "Container.__repr__"), params := (sar (nth (inn (nth bd 9)) 1)), body := (.stmts (inn (nth (inn (nth bd 9)) 1))), scope := (ssc (nth (inn (nth bd 9)) 1)), globals := 3, closure := [], defaults := .none, kwdefaults := .none, doc := .none, pyModule := (.str (.ofString "bayplan.cargo") 232), annotations := none, code := (.ref 75), closureTuple := .none, builtins := 0 }), #[]⟩
def o77_3 (P : Params) : Obj := ⟨(.type "tuple"), none, (.seq #[] 0), #[]⟩
def o78_3 (P : Params) : Obj := ⟨.none, none, (.fields #[]), #[]⟩
def o79_3 (P : Params) : Obj := ⟨(.type "tuple"), none, (.seq #[(.str (.ofString "self") 292)] 0), #[]⟩
def o80_3 (P : Params) : Obj := ⟨(.type "tuple"), none, (.seq #[] 0), #[]⟩
def o81_3 (P : Params) : Obj := ⟨.none, none, (.func { name := (.ofString "key"), qualname := (.ofString "Container.key"), params := (sar (nth (inn (nth bd 9)) 2)), body := (.stmts (inn (nth (inn (nth bd 9)) 2))), scope := (ssc (nth (inn (nth bd 9)) 2)), globals := 0, closure := [], defaults := .none, kwdefaults := .none, doc := .none, pyModule := .none, annotations := none, code := .none, closureTuple := .none, builtins := 0 }), #[]⟩
def o82_3 (P : Params) : Obj := ⟨(.type "code"), none, (.fields #[(.str (.ofString "key") 289), (.str (.ofString "Container.key") 290), (.str (.ofString "/claim/cut.py") 291), (.int 42 0), (.int 1 0), (.int 0 0), (.int 0 0), (.int 3 0), (.ref 77), (.bool true), (.int 181 0), (.ref 78), .none, (.ref 79), (.ref 80), (.ref 81), (.int 293 0), (.int 42 0), (.str (.ofString "/claim/cut.py") 294)]), #[]⟩
def o83_3 (P : Params) : Obj := ⟨(.type "function"), none, (.func { name := (.ofString "key"), qualname := (.ofString "Container.key"), params := (sar (nth (inn (nth bd 9)) 2)), body := (.stmts (inn (nth (inn (nth bd 9)) 2))), scope := (ssc (nth (inn (nth bd 9)) 2)), globals := 3, closure := [], defaults := .none, kwdefaults := .none, doc := .none, pyModule := (.str (.ofString "bayplan.cargo") 232), annotations := none, code := (.ref 82), closureTuple := .none, builtins := 0 }), #[]⟩
def o84_3 (P : Params) : Obj := ⟨(.type "tuple"), none, (.seq #[] 0), #[]⟩
def o85_3 (P : Params) : Obj := ⟨.none, none, (.fields #[]), #[]⟩
def o86_3 (P : Params) : Obj := ⟨(.type "tuple"), none, (.seq #[(.str (.ofString "self") 299), (.str (.ofString "other") 300)] 0), #[]⟩
def o87_3 (P : Params) : Obj := ⟨(.type "tuple"), none, (.seq #[] 0), #[]⟩
def o88_3 (P : Params) : Obj := ⟨.none, none, (.func { name := (.ofString "__eq__"), qualname := (.ofString "Container.__eq__"), params := (sar (nth (inn (nth bd 9)) 3)), body := (.stmts (inn (nth (inn (nth bd 9)) 3))), scope := (ssc (nth (inn (nth bd 9)) 3)), globals := 0, closure := [], defaults := .none, kwdefaults := .none, doc := .none, pyModule := .none, annotations := none, code := .none, closureTuple := .none, builtins := 0 }), #[]⟩
def o89_3 (P : Params) : Obj := ⟨(.type "code"), none, (.fields #[(.str (.ofString "__eq__") 296), (.str (.ofString "Container.__eq__") 297), (.str (.ofString "/claim/cut.py") 298), (.int 45 0), (.int 2 0), (.int 0 0), (.int 0 0), (.int 3 0), (.ref 84), (.bool true), (.int 181 0), (.ref 85), .none, (.ref 86), (.ref 87), (.ref 88), (.int 301 0), (.int 45 0), (.str (.ofString "/claim/cut.py") 302)]), #[]⟩
def o90_3 (P : Params) : Obj := ⟨(.type "function"), none, (.func { name := (.ofString "__eq__"), qualname := (.ofString "Container.__eq__"), params := (sar (nth (inn (nth bd 9)) 3)), body := (.stmts (inn (nth (inn (nth bd 9)) 3))), scope := (ssc (nth (inn (nth bd 9)) 3)), globals := 3, closure := [], defaults := .none, kwdefaults := .none, doc := .none, pyModule := (.str (.ofString "bayplan.cargo") 232), annotations := none, code := (.ref 89), closureTuple := .none, builtins := 0 }), #[]⟩
def o91_3 (P : Params) : Obj := ⟨(.type "tuple"), none, (.seq #[] 0), #[]⟩
def o92_3 (P : Params) : Obj := ⟨.none, none, (.fields #[]), #[]⟩
def o93_3 (P : Params) : Obj := ⟨(.type "tuple"), none, (.seq #[(.str (.ofString "self") 307)] 0), #[]⟩
def o94_3 (P : Params) : Obj := ⟨(.type "tuple"), none, (.seq #[] 0), #[]⟩
def o95_3 (P : Params) : Obj := ⟨.none, none, (.func { name := (.ofString "__hash__"), qualname := (.ofString "Container.__hash__"), params := (sar (nth (inn (nth bd 9)) 4)), body := (.stmts (inn (nth (inn (nth bd 9)) 4))), scope := (ssc (nth (inn (nth bd 9)) 4)), globals := 0, closure := [], defaults := .none, kwdefaults := .none, doc := .none, pyModule := .none, annotations := none, code := .none, closureTuple := .none, builtins := 0 }), #[]⟩
def o96_3 (P : Params) : Obj := ⟨(.type "code"), none, (.fields #[(.str (.ofString "__hash__") 304), (.str (.ofString "Container.__hash__") 305), (.str (.ofString "/claim/cut.py") 306), (.int 50 0), (.int 1 0), (.int 0 0), (.int 0 0), (.int 3 0), (.ref 91), (.bool true), (.int 181 0), (.ref 92), .none, (.ref 93), (.ref 94), (.ref 95), (.int 308 0), (.int 50 0), (.str (.ofString "/claim/cut.py") 309)]), #[]⟩
def o97_3 (P : Params) : Obj := ⟨(.type "function"), none, (.func { name := (.ofString "__hash__"), qualname := (.ofString "Container.__hash__"), params := (sar (nth (inn (nth bd 9)) 4)), body := (.stmts (inn (nth (inn (nth bd 9)) 4))), scope := (ssc (nth (inn (nth bd 9)) 4)), globals := 3, closure := [], defaults := .none, kwdefaults := .none, doc := .none, pyModule := (.str (.ofString "bayplan.cargo") 232), annotations := none, code := (.ref 96), closureTuple := .none, builtins := 0 }), #[]⟩
def o98_3 (P : Params) : Obj := ⟨(.type "tuple"), none, (.seq #[] 0), #[]⟩
def o99_3 (P : Params) : Obj := ⟨.none, none, (.fields #[]), #[]⟩
def o100_3 (P : Params) : Obj := ⟨(.type "tuple"), none, (.seq #[(.str (.ofString "self") 314)] 0), #[]⟩
def o101_3 (P : Params) : Obj := ⟨(.type "tuple"), none, (.seq #[] 0), #[]⟩
def o102_3 (P : Params) : Obj := ⟨.none, none, (.func { name := (.ofString "height"), qualname := (.ofString "Container.height"), params := (sar (nth (inn (nth bd 9)) 5)), body := (.stmts (inn (nth (inn (nth bd 9)) 5))), scope := (ssc (nth (inn (nth bd 10)) 1)), globals := 0, closure := [], defaults := .none, kwdefaults := .none, doc := .none, pyModule := .none, annotations := none, code := .none, closureTuple := .none, builtins := 0 }), #[]⟩
def o103_3 (P : Params) : Obj := ⟨(.type "code"), none, (.fields #[(.str (.ofString "height") 311), (.str (.ofString "Container.height") 312), (.str (.ofString "/claim/cut.py") 313), (.int 53 0), (.int 1 0), (.int 0 0), (.int 0 0), (.int 3 0), (.ref 98), (.bool true), (.int 181 0), (.ref 99), .none, (.ref 100), (.ref 101), (.ref 102), (.int 315 0), (.int 53 0), (.str (.ofString "/claim/cut.py") 316)]), #[]⟩
def o104_3 (P : Params) : Obj := ⟨(.type "function"), none, (.func { name := (.ofString "height"), qualname := (.ofString "Container.height"), params := (sar (nth (inn (nth bd 9)) 5)), body := (.stmts (inn (nth (inn (nth bd 9)) 5))), scope := (ssc (nth (inn (nth bd 10)) 1)), globals := 3, closure := [], defaults := .none, kwdefaults := .none, doc := .none, pyModule := (.str (.ofString "bayplan.cargo") 232), annotations := none, code := (.ref 103), closureTuple := .none, builtins := 0 }), #[]⟩
def o105_3 (P : Params) : Obj := ⟨(.type "tuple"), none, (.seq #[] 0), #[]⟩
def o106_3 (P : Params) : Obj := ⟨.none, none, (.fields #[]), #[]⟩
def o107_3 (P : Params) : Obj := ⟨(.type "tuple"), none, (.seq #[(.str (.ofString "self") 321)] 0), #[]⟩
def o108_3 (P : Params) : Obj := ⟨(.type "tuple"), none, (.seq #[] 0), #[]⟩
def o109_3 (P : Params) : Obj := ⟨.none, none, (.func { name := (.ofString "is_long"), qualname := (.ofString "Container.is_long"), params := (sar (nth (inn (nth bd 9)) 6)), body := (.stmts (inn (nth (inn (nth bd 9)) 6))), scope := (ssc (nth (inn (nth bd 10)) 1)), globals := 0, closure := [], defaults := .none, kwdefaults := .none, doc := .none, pyModule := .none, annotations := none, code := .none, closureTuple := .none, builtins := 0 }), #[]⟩
def o110_3 (P : Params) : Obj := ⟨(.type "code"), none, (.fields #[(.str (.ofString "is_long") 318), (.str (.ofString "Container.is_long") 319), (.str (.ofString "/claim/cut.py") 320), (.int 56 0), (.int 1 0), (.int 0 0), (.int 0 0), (.int 3 0), (.ref 105), (.bool true), (.int 181 0), (.ref 106), .none, (.ref 107), (.ref 108), (.ref 109), (.int 322 0), (.int 56 0), (.str (.ofString "/claim/cut.py") 323)]), #[]⟩
def o111_3 (P : Params) : Obj := ⟨(.type "function"), none, (.func { name := (.ofString "is_long"), qualname := (.ofString "Container.is_long"), params := (sar (nth (inn (nth bd 9)) 6)), body := (.stmts (inn (nth (inn (nth bd 9)) 6))), scope := (ssc (nth (inn (nth bd 10)) 1)), globals := 3, closure := [], defaults := .none, kwdefaults := .none, doc := .none, pyModule := (.str (.ofString "bayplan.cargo") 232), annotations := none, code := (.ref 110), closureTuple := .none, builtins := 0 }), #[]⟩
def o112_3 (P : Params) : Obj := ⟨(.type "tuple"), none, (.seq #[] 0), #[]⟩
def o113_3 (P : Params) : Obj := ⟨.none, none, (.fields #[]), #[]⟩
def o114_3 (P : Params) : Obj := ⟨(.type "tuple"), none, (.seq #[(.str (.ofString "self") 328), (.str (.ofString "slot") 329)] 0), #[]⟩
def o115_3 (P : Params) : Obj := ⟨(.type "tuple"), none, (.seq #[] 0), #[]⟩
def o116_3 (P : Params) : Obj := ⟨.none, none, (.func { name := (.ofString "slots"), qualname := (.ofString "Container.slots"), params := (sar (nth (inn (nth bd 9)) 7)), body := (.stmts (inn (nth (inn (nth bd 9)) 7))), scope := (ssc (nth (inn (nth bd 9)) 7)), globals := 0, closure := [], defaults := .none, kwdefaults := .none, doc := .none, pyModule := .none, annotations := none, code := .none, closureTuple := .none, builtins := 0 }), #[]⟩
def o117_3 (P : Params) : Obj := ⟨(.type "code"), none, (.fields #[(.str (.ofString "slots") 325), (.str (.ofString "Container.slots") 326), (.str (.ofString "/claim/cut.py") 327), (.int 59 0), (.int 2 0), (.int 0 0), (.int 0 0), (.int 3 0), (.ref 112), (.bool true), (.int 181 0), (.ref 113), .none, (.ref 114), (.ref 115), (.ref 116), (.int 330 0), (.int 59 0), (.str (.ofString "/claim/cut.py") 331)]), #[]⟩
def o118_3 (P : Params) : Obj := ⟨(.type "function"), none, (.func { name := (.ofString "slots"), qualname := (.ofString "Container.slots"), params := (sar (nth (inn (nth bd 9)) 7)), body := (.stmts (inn (nth (inn (nth bd 9)) 7))), scope := (ssc (nth (inn (nth bd 9)) 7)), globals := 3, closure := [], defaults := .none, kwdefaults := .none, doc := .none, pyModule := (.str (.ofString "bayplan.cargo") 232), annotations := none, code := (.ref 117), closureTuple := .none, builtins := 0 }), #[]⟩
def o119_3 (P : Params) : Obj := ⟨(.type "tuple"), none, (.seq #[] 0), #[]⟩
def o120_3 (P : Params) : Obj := ⟨.none, none, (.fields #[]), #[]⟩
def o121_3 (P : Params) : Obj := ⟨(.type "tuple"), none, (.seq #[(.str (.ofString "self") 336)] 0), #[]⟩
def o122_3 (P : Params) : Obj := ⟨(.type "tuple"), none, (.seq #[] 0), #[]⟩
def o123_3 (P : Params) : Obj := ⟨.none, none, (.func { name := (.ofString "weight_on"), qualname := (.ofString "Container.weight_on"), params := (sar (nth (inn (nth bd 9)) 8)), body := (.stmts (inn (nth (inn (nth bd 9)) 8))), scope := (ssc (nth (inn (nth bd 10)) 1)), globals := 0, closure := [], defaults := .none, kwdefaults := .none, doc := .none, pyModule := .none, annotations := none, code := .none, closureTuple := .none, builtins := 0 }), #[]⟩
def o124_3 (P : Params) : Obj := ⟨(.type "code"), none, (.fields #[(.str (.ofString "weight_on") 333), (.str (.ofString "Container.weight_on") 334), (.str (.ofString "/claim/cut.py") 335), (.int 62 0), (.int 1 0), (.int 0 0), (.int 0 0), (.int 3 0), (.ref 119), (.bool true), (.int 181 0), (.ref 120), .none, (.ref 121), (.ref 122), (.ref 123), (.int 337 0), (.int 62 0), (.str (.ofString "/claim/cut.py") 338)]), #[]⟩
def o125_3 (P : Params) : Obj := ⟨(.type "function"), none, (.func { name := (.ofString "weight_on"), qualname := (.ofString "Container.weight_on"), params := (sar (nth (inn (nth bd 9)) 8)), body := (.stmts (inn (nth (inn (nth bd 9)) 8))), scope := (ssc (nth (inn (nth bd 10)) 1)), globals := 3, closure := [], defaults := .none, kwdefaults := .none, doc := .none, pyModule := (.str (.ofString "bayplan.cargo") 232), annotations := none, code := (.ref 124), closureTuple := .none, builtins := 0 }), #[]⟩
def o126_3 (P : Params) : Obj := ⟨(.type "tuple"), none, (.seq #[] 0), #[]⟩
def o127_3 (P : Params) : Obj := ⟨.none, none, (.fields #[]), #[]⟩
def o128_3 (P : Params) : Obj := ⟨(.type "tuple"), none, (.seq #[(.str (.ofString "self") 343), (.str (.ofString "leg") 344)] 0), #[]⟩
def o129_3 (P : Params) : Obj := ⟨(.type "tuple"), none, (.seq #[] 0), #[]⟩
def o130_3 (P : Params) : Obj := ⟨.none, none, (.func { name := (.ofString "is_on_leg"), qualname := (.ofString "Container.is_on_leg"), params := (sar (nth (inn (nth bd 9)) 9)), body := (.stmts (inn (nth (inn (nth bd 9)) 9))), scope := (ssc (nth (inn (nth bd 9)) 9)), globals := 0, closure := [], defaults := .none, kwdefaults := .none, doc := .none, pyModule := .none, annotations := none, code := .none, closureTuple := .none, builtins := 0 }), #[]⟩
def o131_3 (P : Params) : Obj := ⟨(.type "code"), none, (.fields #[(.str (.ofString "is_on_leg") 340), (.str (.ofString "Container.is_on_leg") 341), (.str (.ofString "/claim/cut.py") 342), (.int 65 0), (.int 2 0), (.int 0 0), (.int 0 0), (.int 3 0), (.ref 126), (.bool true), (.int 181 0), (.ref 127), .none, (.ref 128), (.ref 129), (.ref 130), (.int 345 0), (.int 65 0), (.str (.ofString "/claim/cut.py") 346)]), #[]⟩
def o132_3 (P : Params) : Obj := ⟨(.type "function"), none, (.func { name := (.ofString "is_on_leg"), qualname := (.ofString "Container.is_on_leg"), params := (sar (nth (inn (nth bd 9)) 9)), body := (.stmts (inn (nth (inn (nth bd 9)) 9))), scope := (ssc (nth (inn (nth bd 9)) 9)), globals := 3, closure := [], defaults := .none, kwdefaults := .none, doc := .none, pyModule := (.str (.ofString "bayplan.cargo") 232), annotations := none, code := (.ref 131), closureTuple := .none, builtins := 0 }), #[]⟩
def o133_3 (P : Params) : Obj := ⟨(.type "tuple"), none, (.seq #[(.str (.ofString "cooled") 348), (.str (.ofString "discharge") 349), (.str (.ofString "hazard") 350), (.str (.ofString "kind") 351), (.str (.ofString "length") 352), (.str (.ofString "load") 353), (.str (.ofString "name") 354), (.str (.ofString "weight") 355)] 0), #[]⟩
def o134_3 (P : Params) : Obj := ⟨(.type "dict"), none, (.dict #[en P (.ofString "__module__") 259 (.str (.ofString "bayplan.cargo") 232), en P (.ofString "__firstlineno__") 263 (.int 15 262), en P (.ofString "__init__") 281 (.ref 69), en P (.ofString "__repr__") 288 (.ref 76), en P (.ofString "key") 295 (.ref 83), en P (.ofString "__eq__") 303 (.ref 90), en P (.ofString "__hash__") 310 (.ref 97), en P (.ofString "height") 317 (.ref 104), en P (.ofString "is_long") 324 (.ref 111), en P (.ofString "slots") 332 (.ref 118), en P (.ofString "weight_on") 339 (.ref 125), en P (.ofString "is_on_leg") 347 (.ref 132), en P (.ofString "__static_attributes__") 356 (.ref 133), en P (.ofString "__dict__") 358 (.ref 136), en P (.ofString "__weakref__") 360 (.ref 137), en P (.ofString "__doc__") 361 .none] 4), #[]⟩
def o135_3 (P : Params) : Obj := ⟨(.type "type"), none, (.cls { name := (.ofString "Container"), bases := [(.type "object")], mro := [(.ref 135), (.type "object")], ns := 134, qualname := (.ofString "Container"), hasDict := true, slotNames := [], subclasses := [], abstract := false, collection := none, hasDel := false }), #[none, none, (some (.str (.ofString "Container") 252)), (some (.str (.ofString "Container") 260)), (some (.builtin "object.__new__")), (some (.bool true))]⟩
def o136_3 (P : Params) : Obj := ⟨(.type "getset_descriptor"), none, (.fields #[(.str (.ofString "__dict__") 357), (.ref 135), (.builtin "function.__dict__"), (.builtin "function.__dict__#set")]), #[]⟩
def o137_3 (P : Params) : Obj := ⟨(.type "getset_descriptor"), none, (.fields #[(.str (.ofString "__weakref__") 359), (.ref 135), (.builtin "ExceptionGroup.__weakref__"), .none]), #[]⟩
def o138_3 (P : Params) : Obj := ⟨(.type "super"), none, (.fields #[(.ref 135), (.ref 135), (.ref 135)]), #[]⟩
def o139_3 (P : Params) : Obj := ⟨(.type "builtin_function_or_method"), none, (.fields #[(.builtin "object.__init_subclass__"), (.ref 135)]), #[]⟩
def T2 (P : Params) : BT := (.node (PySem.W.boot_o_0 P) (.node (PySem.W.boot_o_1 P) (.node (o3_3 P) (.node (PySem.W.boot_o_7 P) (.node (o15_2 P) (.node (o31_2 P) (.node (o63_3 P) (.node (o127_3 P) .nil .nil) .nil) (.node (o95_3 P) .nil .nil)) (.node (o47_2 P) (.node (o79_3 P) .nil .nil) (.node (o111_3 P) .nil .nil))) (.node (o23_2 P) (.node (o39_2 P) (.node (o71_3 P) (.node (o135_3 P) .nil .nil) .nil) (.node (o103_3 P) .nil .nil)) (.node (o55_3 P) (.node (o87_3 P) .nil .nil) (.node (o119_3 P) .nil .nil)))) (.node (o11_0 P) (.node (o19_2 P) (.node (o35_2 P) (.node (o67_3 P) (.node (o131_3 P) .nil .nil) .nil) (.node (o99_3 P) .nil .nil)) (.node (o51_2 P) (.node (o83_3 P) .nil .nil) (.node (o115_3 P) .nil .nil))) (.node (o27_2 P) (.node (o43_2 P) (.node (o75_3 P) (.node (o139_3 P) .nil .nil) .nil) (.node (o107_3 P) .nil .nil)) (.node (o59_3 P) (.node (o91_3 P) .nil .nil) (.node (o123_3 P) .nil .nil))))) (.node (PySem.W.boot_o_5 P) (.node (PySem.W.boot_o_9 P) (.node (o17_2 P) (.node (o33_2 P) (.node (o65_3 P) (.node (o129_3 P) .nil .nil) .nil) (.node (o97_3 P) .nil .nil)) (.node (o49_2 P) (.node (o81_3 P) .nil .nil) (.node (o113_3 P) .nil .nil))) (.node (o25_2 P) (.node (o41_2 P) (.node (o73_3 P) (.node (o137_3 P) .nil .nil) .nil) (.node (o105_3 P) .nil .nil)) (.node (o57_3 P) (.node (o89_3 P) .nil .nil) (.node (o121_3 P) .nil .nil)))) (.node (o13_0 P) (.node (o21_2 P) (.node (o37_2 P) (.node (o69_3 P) (.node (o133_3 P) .nil .nil) .nil) (.node (o101_3 P) .nil .nil)) (.node (o53_2 P) (.node (o85_3 P) .nil .nil) (.node (o117_3 P) .nil .nil))) (.node (o29_2 P) (.node (o45_2 P) (.node (o77_3 P) .nil .nil) (.node (o109_3 P) .nil .nil)) (.node (o61_3 P) (.node (o93_3 P) .nil .nil) (.node (o125_3 P) .nil .nil)))))) (.node (o2_2 P) (.node (PySem.W.boot_o_4 P) (.node (PySem.W.boot_o_8 P) (.node (o16_2 P) (.node (o32_2 P) (.node (o64_3 P) (.node (o128_3 P) .nil .nil) .nil) (.node (o96_3 P) .nil .nil)) (.node (o48_2 P) (.node (o80_3 P) .nil .nil) (.node (o112_3 P) .nil .nil))) (.node (o24_2 P) (.node (o40_2 P) (.node (o72_3 P) (.node (o136_3 P) .nil .nil) .nil) (.node (o104_3 P) .nil .nil)) (.node (o56_3 P) (.node (o88_3 P) .nil .nil) (.node (o120_3 P) .nil .nil)))) (.node (o12_3 P) (.node (o20_2 P) (.node (o36_2 P) (.node (o68_3 P) (.node (o132_3 P) .nil .nil) .nil) (.node (o100_3 P) .nil .nil)) (.node (o52_2 P) (.node (o84_3 P) .nil .nil) (.node (o116_3 P) .nil .nil))) (.node (o28_2 P) (.node (o44_2 P) (.node (o76_3 P) .nil .nil) (.node (o108_3 P) .nil .nil)) (.node (o60_3 P) (.node (o92_3 P) .nil .nil) (.node (o124_3 P) .nil .nil))))) (.node (PySem.W.boot_o_6 P) (.node (PySem.W.boot_o_10 P) (.node (o18_2 P) (.node (o34_2 P) (.node (o66_3 P) (.node (o130_3 P) .nil .nil) .nil) (.node (o98_3 P) .nil .nil)) (.node (o50_2 P) (.node (o82_3 P) .nil .nil) (.node (o114_3 P) .nil .nil))) (.node (o26_2 P) (.node (o42_2 P) (.node (o74_3 P) (.node (o138_3 P) .nil .nil) .nil) (.node (o106_3 P) .nil .nil)) (.node (o58_3 P) (.node (o90_3 P) .nil .nil) (.node (o122_3 P) .nil .nil)))) (.node (o14_0 P) (.node (o22_2 P) (.node (o38_2 P) (.node (o70_3 P) (.node (o134_3 P) .nil .nil) .nil) (.node (o102_3 P) .nil .nil)) (.node (o54_2 P) (.node (o86_3 P) .nil .nil) (.node (o118_3 P) .nil .nil))) (.node (o30_2 P) (.node (o46_2 P) (.node (o78_3 P) .nil .nil) (.node (o110_3 P) .nil .nil)) (.node (o62_3 P) (.node (o94_3 P) .nil .nil) (.node (o126_3 P) .nil .nil)))))))
def o3_4 (P : Params) : Obj := ⟨(.type "dict"), none, (.dict #[en P (.ofString "__name__") 165 (.str (.ofString "law_ui0503_04") 473), en P (.ofString "__doc__") 166 .none, en P (.ofString "__package__") 167 .none, en P (.ofString "__loader__") 168 (.builtin "__main__.__loader__#opaque"), en P (.ofString "__spec__") 169 .none, en P (.ofString "__annotations__") 170 (.ref 6), en P (.ofString "__builtins__") 171 (.ref 4), en P (.ofString "__file__") 173 (.str (.ofString "/claim/cut.py") 172), en P (.ofString "__cached__") 174 .none, en P (.ofString "_wall") 193 (.ref 21), en P (.ofString "StowError") 215 (.ref 31), en P (.ofString "CargoError") 231 (.ref 44), en P (.ofString "SHORT") 235 (.int 20 234), en P (.ofString "LONG") 237 (.int 40 236), en P (.ofString "HEIGHTS") 244 (.ref 47), en P (.ofString "is_word") 251 (.ref 54), en P (.ofString "Container") 363 (.ref 135), en P (.ofString "Voyage") 472 (.ref 225), en P (.ofString "_law_cell") 482 (.ref 236)] 19), #[]⟩
def o12_4 (P : Params) : Obj := ⟨.none, none, (.fields #[(.int 1 0), (.int 0 0), (.ref 20), (.int 5 0), (.int 0 0), (.ref 27), (.int 7 0), (.int 0 0), (.ref 40), (.int 13 0), (.int 0 0), (.ref 53), (.int 15 0), (.int 0 0), (.ref 60), (.int 67 0), (.int 0 0), (.ref 145), (.int 118 0), (.int 0 0), (.ref 235)]), #[]⟩
def o140_4 (P : Params) : Obj := ⟨(.type "tuple"), none, (.seq #[] 0), #[]⟩
def o141_4 (P : Params) : Obj := ⟨(.type "builtin_function_or_method"), none, (.fields #[(.builtin "type.__prepare__"), (.type "type")]), #[]⟩
def o142_4 (P : Params) : Obj := ⟨(.type "dict"), none, (.dict #[en P (.ofString "__module__") 371 (.str (.ofString "bayplan.cargo") 232), en P (.ofString "__qualname__") 373 (.str (.ofString "Voyage") 372), en P (.ofString "__firstlineno__") 375 (.int 67 374), en P (.ofString "__init__") 381 (.ref 151), en P (.ofString "legs") 388 (.ref 158), en P (.ofString "port") 397 (.ref 165), en P (.ofString "add") 405 (.ref 172), en P (.ofString "get") 413 (.ref 179), en P (.ofString "names") 420 (.ref 186), en P (.ofString "on_leg") 426 (.ref 191), en P (.ofString "loaded_at") 432 (.ref 196), en P (.ofString "discharged_at") 438 (.ref 201), en P (.ofString "staying_at") 446 (.ref 208), en P (.ofString "weight_on_leg") 454 (.ref 215), en P (.ofString "units") 462 (.ref 222), en P (.ofString "__static_attributes__") 465 (.ref 223)] 16), #[]⟩
def o143_4 (P : Params) : Obj := ⟨(.type "tuple"), none, (.seq #[] 0), #[]⟩
def o144_4 (P : Params) : Obj := ⟨.none, none, (.fields #[(.int 69 0), (.int 4 0), (.ref 150), (.int 75 0), (.int 4 0), (.ref 157), (.int 78 0), (.int 4 0), (.ref 164), (.int 84 0), (.int 4 0), (.ref 171), (.int 92 0), (.int 4 0), (.ref 178), (.int 97 0), (.int 4 0), (.ref 185), (.int 100 0), (.int 4 0), (.ref 190), (.int 103 0), (.int 4 0), (.ref 195), (.int 106 0), (.int 4 0), (.ref 200), (.int 109 0), (.int 4 0), (.ref 207), (.int 112 0), (.int 4 0), (.ref 214), (.int 115 0), (.int 4 0), (.ref 221)]), #[]⟩
def o145_4 (P : Params) : Obj := ⟨(.type "code"), none, (.fields #[(.str (.ofString "Voyage") 366), (.str (.ofString "Voyage") 367), (.str (.ofString "/claim/cut.py") 368), (.int 67 0), (.int 0 0), (.int 0 0), (.int 0 0), (.int 0 0), (.ref 143), (.bool false), (.int 181 0), (.ref 144), .none, .none, .none, .none, (.int 369 0), (.int 67 0), (.str (.ofString "/claim/cut.py") 370)]), #[]⟩
def o146_4 (P : Params) : Obj := ⟨(.type "frame"), none, .plain, #[(some (.ref 145)), (some (.ref 3)), (some (.ref 142)), none, (some (.str (.ofString "bayplan.cargo") 232)), none, (some (.ref 0))]⟩
def o147_4 (P : Params) : Obj := ⟨(.type "tuple"), none, (.seq #[] 0), #[]⟩
def o148_4 (P : Params) : Obj := ⟨.none, none, (.fields #[]), #[]⟩
def o149_4 (P : Params) : Obj := ⟨.none, none, (.func { name := (.ofString "__init__"), qualname := (.ofString "Voyage.__init__"), params := (sar (nth (inn (nth bd 10)) 0)), body := (.stmts (inn (nth (inn (nth bd 10)) 0))), scope := (ssc (nth (inn (nth bd 10)) 0)), globals := 0, closure := [], defaults := .none, kwdefaults := .none, doc := .none, pyModule := .none, annotations := none, code := .none, closureTuple := .none, builtins := 0 }), #[]⟩
def o150_4 (P : Params) : Obj := ⟨(.type "code"), none, (.fields #[(.str (.ofString "__init__") 376), (.str (.ofString "Voyage.__init__") 377), (.str (.ofString "/claim/cut.py") 378), (.int 69 0), (.int 2 0), (.int 0 0), (.int 0 0), (.int 3 0), (.ref 147), (.bool true), (.int 181 0), (.ref 148), .none, .none, .none, (.ref 149), (.int 379 0), (.int 69 0), (.str (.ofString "/claim/cut.py") 380)]), #[]⟩
def o151_4 (P : Params) : Obj := ⟨(.type "function"), none, (.func { name := (.ofString "__init__"), qualname := (.ofString "Voyage.__init__"), params := (sar (nth (inn (nth bd 10)) 0)), body := (.stmts (inn (nth (inn (nth bd 10)) 0))), scope := (ssc (nth (inn (nth bd 10)) 0)), globals := 3, closure := [], defaults := .none, kwdefaults := .none, doc := .none, pyModule := (.str (.ofString "bayplan.cargo") 232), annotations := none, code := (.ref 150), closureTuple := .none, builtins := 0 }), #[]⟩
def o152_4 (P : Params) : Obj := ⟨(.type "tuple"), none, (.seq #[] 0), #[]⟩
def o153_4 (P : Params) : Obj := ⟨.none, none, (.fields #[]), #[]⟩
def o154_4 (P : Params) : Obj := ⟨(.type "tuple"), none, (.seq #[(.str (.ofString "self") 385)] 0), #[]⟩
def o155_4 (P : Params) : Obj := ⟨(.type "tuple"), none, (.seq #[] 0), #[]⟩
def o156_4 (P : Params) : Obj := ⟨.none, none, (.func { name := (.ofString "legs"), qualname := (.ofString "Voyage.legs"), params := (sar (nth (inn (nth bd 10)) 1)), body := (.stmts (inn (nth (inn (nth bd 10)) 1))), scope := (ssc (nth (inn (nth bd 10)) 1)), globals := 0, closure := [], defaults := .none, kwdefaults := .none, doc := .none, pyModule := .none, annotations := none, code := .none, closureTuple := .none, builtins := 0 }), #[]⟩
def o157_4 (P : Params) : Obj := ⟨(.type "code"), none, (.fields #[(.str (.ofString "legs") 382), (.str (.ofString "Voyage.legs") 383), (.str (.ofString "/claim/cut.py") 384), (.int 75 0), (.int 1 0), (.int 0 0), (.int 0 0), (.int 3 0), (.ref 152), (.bool true), (.int 181 0), (.ref 153), .none, (.ref 154), (.ref 155), (.ref 156), (.int 386 0), (.int 75 0), (.str (.ofString "/claim/cut.py") 387)]), #[]⟩
def o158_4 (P : Params) : Obj := ⟨(.type "function"), none, (.func { name := (.ofString "legs"), qualname := (.ofString "Voyage.legs"), params := (sar (nth (inn (nth bd 10)) 1)), body := (.stmts (inn (nth (inn (nth bd 10)) 1))), scope := (ssc (nth (inn (nth bd 10)) 1)), globals := 3, closure := [], defaults := .none, kwdefaults := .none, doc := .none, pyModule := (.str (.ofString "bayplan.cargo") 232), annotations := none, code := (.ref 157), closureTuple := .none, builtins := 0 }), #[]⟩
def o159_4 (P : Params) : Obj := ⟨(.type "tuple"), none, (.seq #[] 0), #[]⟩
def o160_4 (P : Params) : Obj := ⟨.none, none, (.fields #[]), #[]⟩
def o161_4 (P : Params) : Obj := ⟨(.type "tuple"), none, (.seq #[(.str (.ofString "self") 392), (.str (.ofString "name") 393), (.str (.ofString "place") 394)] 0), #[]⟩
def o162_4 (P : Params) : Obj := ⟨(.type "tuple"), none, (.seq #[] 0), #[]⟩
def o163_4 (P : Params) : Obj := ⟨.none, none, (.func { name := (.ofString "port"), qualname := (.ofString "Voyage.port"), params := (sar (nth (inn (nth bd 10)) 2)), body := (.stmts (inn (nth (inn (nth bd 10)) 2))), scope := (ssc (nth (inn (nth bd 10)) 2)), globals := 0, closure := [], defaults := .none, kwdefaults := .none, doc := .none, pyModule := .none, annotations := none, code := .none, closureTuple := .none, builtins := 0 }), #[]⟩
def o164_4 (P : Params) : Obj := ⟨(.type "code"), none, (.fields #[(.str (.ofString "port") 389), (.str (.ofString "Voyage.port") 390), (.str (.ofString "/claim/cut.py") 391), (.int 78 0), (.int 2 0), (.int 0 0), (.int 0 0), (.int 3 0), (.ref 159), (.bool true), (.int 181 0), (.ref 160), .none, (.ref 161), (.ref 162), (.ref 163), (.int 395 0), (.int 78 0), (.str (.ofString "/claim/cut.py") 396)]), #[]⟩
def o165_4 (P : Params) : Obj := ⟨(.type "function"), none, (.func { name := (.ofString "port"), qualname := (.ofString "Voyage.port"), params := (sar (nth (inn (nth bd 10)) 2)), body := (.stmts (inn (nth (inn (nth bd 10)) 2))), scope := (ssc (nth (inn (nth bd 10)) 2)), globals := 3, closure := [], defaults := .none, kwdefaults := .none, doc := .none, pyModule := (.str (.ofString "bayplan.cargo") 232), annotations := none, code := (.ref 164), closureTuple := .none, builtins := 0 }), #[]⟩
def o166_4 (P : Params) : Obj := ⟨(.type "tuple"), none, (.seq #[] 0), #[]⟩
def o167_4 (P : Params) : Obj := ⟨.none, none, (.fields #[]), #[]⟩
def o168_4 (P : Params) : Obj := ⟨(.type "tuple"), none, (.seq #[(.str (.ofString "self") 401), (.str (.ofString "container") 402)] 0), #[]⟩
def o169_4 (P : Params) : Obj := ⟨(.type "tuple"), none, (.seq #[] 0), #[]⟩
def o170_4 (P : Params) : Obj := ⟨.none, none, (.func { name := (.ofString "add"), qualname := (.ofString "Voyage.add"), params := (sar (nth (inn (nth bd 10)) 3)), body := (.stmts (inn (nth (inn (nth bd 10)) 3))), scope := (ssc (nth (inn (nth bd 10)) 3)), globals := 0, closure := [], defaults := .none, kwdefaults := .none, doc := .none, pyModule := .none, annotations := none, code := .none, closureTuple := .none, builtins := 0 }), #[]⟩
def o171_4 (P : Params) : Obj := ⟨(.type "code"), none, (.fields #[(.str (.ofString "add") 398), (.str (.ofString "Voyage.add") 399), (.str (.ofString "/claim/cut.py") 400), (.int 84 0), (.int 2 0), (.int 0 0), (.int 0 0), (.int 3 0), (.ref 166), (.bool true), (.int 181 0), (.ref 167), .none, (.ref 168), (.ref 169), (.ref 170), (.int 403 0), (.int 84 0), (.str (.ofString "/claim/cut.py") 404)]), #[]⟩
def o172_4 (P : Params) : Obj := ⟨(.type "function"), none, (.func { name := (.ofString "add"), qualname := (.ofString "Voyage.add"), params := (sar (nth (inn (nth bd 10)) 3)), body := (.stmts (inn (nth (inn (nth bd 10)) 3))), scope := (ssc (nth (inn (nth bd 10)) 3)), globals := 3, closure := [], defaults := .none, kwdefaults := .none, doc := .none, pyModule := (.str (.ofString "bayplan.cargo") 232), annotations := none, code := (.ref 171), closureTuple := .none, builtins := 0 }), #[]⟩
def o173_4 (P : Params) : Obj := ⟨(.type "tuple"), none, (.seq #[] 0), #[]⟩
def o174_4 (P : Params) : Obj := ⟨.none, none, (.fields #[]), #[]⟩
def o175_4 (P : Params) : Obj := ⟨(.type "tuple"), none, (.seq #[(.str (.ofString "self") 409), (.str (.ofString "name") 410)] 0), #[]⟩
def o176_4 (P : Params) : Obj := ⟨(.type "tuple"), none, (.seq #[] 0), #[]⟩
def o177_4 (P : Params) : Obj := ⟨.none, none, (.func { name := (.ofString "get"), qualname := (.ofString "Voyage.get"), params := (sar (nth (inn (nth bd 10)) 4)), body := (.stmts (inn (nth (inn (nth bd 10)) 4))), scope := (ssc (nth (inn (nth bd 10)) 4)), globals := 0, closure := [], defaults := .none, kwdefaults := .none, doc := .none, pyModule := .none, annotations := none, code := .none, closureTuple := .none, builtins := 0 }), #[]⟩
def o178_4 (P : Params) : Obj := ⟨(.type "code"), none, (.fields #[(.str (.ofString "get") 406), (.str (.ofString "Voyage.get") 407), (.str (.ofString "/claim/cut.py") 408), (.int 92 0), (.int 2 0), (.int 0 0), (.int 0 0), (.int 3 0), (.ref 173), (.bool true), (.int 181 0), (.ref 174), .none, (.ref 175), (.ref 176), (.ref 177), (.int 411 0), (.int 92 0), (.str (.ofString "/claim/cut.py") 412)]), #[]⟩
def o179_4 (P : Params) : Obj := ⟨(.type "function"), none, (.func { name := (.ofString "get"), qualname := (.ofString "Voyage.get"), params := (sar (nth (inn (nth bd 10)) 4)), body := (.stmts (inn (nth (inn (nth bd 10)) 4))), scope := (ssc (nth (inn (nth bd 10)) 4)), globals := 3, closure := [], defaults := .none, kwdefaults := .none, doc := .none, pyModule := (.str (.ofString "bayplan.cargo") 232), annotations := none, code := (.ref 178), closureTuple := .none, builtins := 0 }), #[]⟩
def o180_4 (P : Params) : Obj := ⟨(.type "tuple"), none, (.seq #[] 0), #[]⟩
def o181_4 (P : Params) : Obj := ⟨.none, none, (.fields #[]), #[]⟩
def o182_4 (P : Params) : Obj := ⟨(.type "tuple"), none, (.seq #[(.str (.ofString "self") 417)] 0), #[]⟩
def o183_4 (P : Params) : Obj := ⟨(.type "tuple"), none, (.seq #[] 0), #[]⟩
def o184_4 (P : Params) : Obj := ⟨.none, none, (.func { name := (.ofString "names"), qualname := (.ofString "Voyage.names"), params := (sar (nth (inn (nth bd 10)) 5)), body := (.stmts (inn (nth (inn (nth bd 10)) 5))), scope := (ssc (nth (inn (nth bd 10)) 5)), globals := 0, closure := [], defaults := .none, kwdefaults := .none, doc := .none, pyModule := .none, annotations := none, code := .none, closureTuple := .none, builtins := 0 }), #[]⟩
def o185_4 (P : Params) : Obj := ⟨(.type "code"), none, (.fields #[(.str (.ofString "names") 414), (.str (.ofString "Voyage.names") 415), (.str (.ofString "/claim/cut.py") 416), (.int 97 0), (.int 1 0), (.int 0 0), (.int 0 0), (.int 3 0), (.ref 180), (.bool true), (.int 181 0), (.ref 181), .none, (.ref 182), (.ref 183), (.ref 184), (.int 418 0), (.int 97 0), (.str (.ofString "/claim/cut.py") 419)]), #[]⟩
def o186_4 (P : Params) : Obj := ⟨(.type "function"), none, (.func { name := (.ofString "names"), qualname := (.ofString "Voyage.names"), params := (sar (nth (inn (nth bd 10)) 5)), body := (.stmts (inn (nth (inn (nth bd 10)) 5))), scope := (ssc (nth (inn (nth bd 10)) 5)), globals := 3, closure := [], defaults := .none, kwdefaults := .none, doc := .none, pyModule := (.str (.ofString "bayplan.cargo") 232), annotations := none, code := (.ref 185), closureTuple := .none, builtins := 0 }), #[]⟩
def o187_4 (P : Params) : Obj := ⟨(.type "tuple"), none, (.seq #[] 0), #[]⟩
def o188_4 (P : Params) : Obj := ⟨.none, none, (.fields #[]), #[]⟩
def o189_4 (P : Params) : Obj := ⟨.none, none, (.func { name := (.ofString "on_leg"), qualname := (.ofString "Voyage.on_leg"), params := (sar (nth (inn (nth bd 10)) 6)), body := (.stmts (inn (nth (inn (nth bd 10)) 6))), scope := (ssc (nth (inn (nth bd 10)) 6)), globals := 0, closure := [], defaults := .none, kwdefaults := .none, doc := .none, pyModule := .none, annotations := none, code := .none, closureTuple := .none, builtins := 0 }), #[]⟩
def o190_4 (P : Params) : Obj := ⟨(.type "code"), none, (.fields #[(.str (.ofString "on_leg") 421), (.str (.ofString "Voyage.on_leg") 422), (.str (.ofString "/claim/cut.py") 423), (.int 100 0), (.int 2 0), (.int 0 0), (.int 0 0), (.int 3 0), (.ref 187), (.bool true), (.int 181 0), (.ref 188), .none, .none, .none, (.ref 189), (.int 424 0), (.int 100 0), (.str (.ofString "/claim/cut.py") 425)]), #[]⟩
def o191_4 (P : Params) : Obj := ⟨(.type "function"), none, (.func { name := (.ofString "on_leg"), qualname := (.ofString "Voyage.on_leg"), params := (sar (nth (inn (nth bd 10)) 6)), body := (.stmts (inn (nth (inn (nth bd 10)) 6))), scope := (ssc (nth (inn (nth bd 10)) 6)), globals := 3, closure := [], defaults := .none, kwdefaults := .none, doc := .none, pyModule := (.str (.ofString "bayplan.cargo") 232), annotations := none, code := (.ref 190), closureTuple := .none, builtins := 0 }), #[]⟩
def o192_4 (P : Params) : Obj := ⟨(.type "tuple"), none, (.seq #[] 0), #[]⟩
def o193_4 (P : Params) : Obj := ⟨.none, none, (.fields #[]), #[]⟩
def o194_4 (P : Params) : Obj := ⟨.none, none, (.func { name := (.ofString "loaded_at"), qualname := (.ofString "Voyage.loaded_at"), params := (sar (nth (inn (nth bd 10)) 7)), body := (.stmts (inn (nth (inn (nth bd 10)) 7))), scope := (ssc (nth (inn (nth bd 10)) 8)), globals := 0, closure := [], defaults := .none, kwdefaults := .none, doc := .none, pyModule := .none, annotations := none, code := .none, closureTuple := .none, builtins := 0 }), #[]⟩
def o195_4 (P : Params) : Obj := ⟨(.type "code"), none, (.fields #[(.str (.ofString "loaded_at") 427), (.str (.ofString "Voyage.loaded_at") 428), (.str (.ofString "/claim/cut.py") 429), (.int 103 0), (.int 2 0), (.int 0 0), (.int 0 0), (.int 3 0), (.ref 192), (.bool true), (.int 181 0), (.ref 193), .none, .none, .none, (.ref 194), (.int 430 0), (.int 103 0), (.str (.ofString "/claim/cut.py") 431)]), #[]⟩
def o196_4 (P : Params) : Obj := ⟨(.type "function"), none, (.func { name := (.ofString "loaded_at"), qualname := (.ofString "Voyage.loaded_at"), params := (sar (nth (inn (nth bd 10)) 7)), body := (.stmts (inn (nth (inn (nth bd 10)) 7))), scope := (ssc (nth (inn (nth bd 10)) 8)), globals := 3, closure := [], defaults := .none, kwdefaults := .none, doc := .none, pyModule := (.str (.ofString "bayplan.cargo") 232), annotations := none, code := (.ref 195), closureTuple := .none, builtins := 0 }), #[]⟩
def o197_4 (P : Params) : Obj := ⟨(.type "tuple"), none, (.seq #[] 0), #[]⟩
def o198_4 (P : Params) : Obj := ⟨.none, none, (.fields #[]), #[]⟩
def o199_4 (P : Params) : Obj := ⟨.none, none, (.func { name := (.ofString "discharged_at"), qualname := (.ofString "Voyage.discharged_at"), params := (sar (nth (inn (nth bd 10)) 8)), body := (.stmts (inn (nth (inn (nth bd 10)) 8))), scope := (ssc (nth (inn (nth bd 10)) 8)), globals := 0, closure := [], defaults := .none, kwdefaults := .none, doc := .none, pyModule := .none, annotations := none, code := .none, closureTuple := .none, builtins := 0 }), #[]⟩
def o200_4 (P : Params) : Obj := ⟨(.type "code"), none, (.fields #[(.str (.ofString "discharged_at") 433), (.str (.ofString "Voyage.discharged_at") 434), (.str (.ofString "/claim/cut.py") 435), (.int 106 0), (.int 2 0), (.int 0 0), (.int 0 0), (.int 3 0), (.ref 197), (.bool true), (.int 181 0), (.ref 198), .none, .none, .none, (.ref 199), (.int 436 0), (.int 106 0), (.str (.ofString "/claim/cut.py") 437)]), #[]⟩
def o201_4 (P : Params) : Obj := ⟨(.type "function"), none, (.func { name := (.ofString "discharged_at"), qualname := (.ofString "Voyage.discharged_at"), params := (sar (nth (inn (nth bd 10)) 8)), body := (.stmts (inn (nth (inn (nth bd 10)) 8))), scope := (ssc (nth (inn (nth bd 10)) 8)), globals := 3, closure := [], defaults := .none, kwdefaults := .none, doc := .none, pyModule := (.str (.ofString "bayplan.cargo") 232), annotations := none, code := (.ref 200), closureTuple := .none, builtins := 0 }), #[]⟩
def o202_4 (P : Params) : Obj := ⟨(.type "tuple"), none, (.seq #[] 0), #[]⟩
def o203_4 (P : Params) : Obj := ⟨.none, none, (.fields #[]), #[]⟩
def o204_4 (P : Params) : Obj := ⟨(.type "tuple"), none, (.seq #[(.str (.ofString "self") 442), (.str (.ofString "port") 443)] 0), #[]⟩
def o205_4 (P : Params) : Obj := ⟨(.type "tuple"), none, (.seq #[] 0), #[]⟩
def o206_4 (P : Params) : Obj := ⟨.none, none, (.func { name := (.ofString "staying_at"), qualname := (.ofString "Voyage.staying_at"), params := (sar (nth (inn (nth bd 10)) 9)), body := (.stmts (inn (nth (inn (nth bd 10)) 9))), scope := (ssc (nth (inn (nth bd 10)) 9)), globals := 0, closure := [], defaults := .none, kwdefaults := .none, doc := .none, pyModule := .none, annotations := none, code := .none, closureTuple := .none, builtins := 0 }), #[]⟩
def o207_4 (P : Params) : Obj := ⟨(.type "code"), none, (.fields #[(.str (.ofString "staying_at") 439), (.str (.ofString "Voyage.staying_at") 440), (.str (.ofString "/claim/cut.py") 441), (.int 109 0), (.int 2 0), (.int 0 0), (.int 0 0), (.int 3 0), (.ref 202), (.bool true), (.int 181 0), (.ref 203), .none, (.ref 204), (.ref 205), (.ref 206), (.int 444 0), (.int 109 0), (.str (.ofString "/claim/cut.py") 445)]), #[]⟩
def o208_4 (P : Params) : Obj := ⟨(.type "function"), none, (.func { name := (.ofString "staying_at"), qualname := (.ofString "Voyage.staying_at"), params := (sar (nth (inn (nth bd 10)) 9)), body := (.stmts (inn (nth (inn (nth bd 10)) 9))), scope := (ssc (nth (inn (nth bd 10)) 9)), globals := 3, closure := [], defaults := .none, kwdefaults := .none, doc := .none, pyModule := (.str (.ofString "bayplan.cargo") 232), annotations := none, code := (.ref 207), closureTuple := .none, builtins := 0 }), #[]⟩
def o209_4 (P : Params) : Obj := ⟨(.type "tuple"), none, (.seq #[] 0), #[]⟩
def o210_4 (P : Params) : Obj := ⟨.none, none, (.fields #[]), #[]⟩
def o211_4 (P : Params) : Obj := ⟨(.type "tuple"), none, (.seq #[(.str (.ofString "self") 450), (.str (.ofString "leg") 451)] 0), #[]⟩
def o212_4 (P : Params) : Obj := ⟨(.type "tuple"), none, (.seq #[] 0), #[]⟩
def o213_4 (P : Params) : Obj := ⟨.none, none, (.func { name := (.ofString "weight_on_leg"), qualname := (.ofString "Voyage.weight_on_leg"), params := (sar (nth (inn (nth bd 10)) 10)), body := (.stmts (inn (nth (inn (nth bd 10)) 10))), scope := (ssc (nth (inn (nth bd 10)) 11)), globals := 0, closure := [], defaults := .none, kwdefaults := .none, doc := .none, pyModule := .none, annotations := none, code := .none, closureTuple := .none, builtins := 0 }), #[]⟩
def o214_4 (P : Params) : Obj := ⟨(.type "code"), none, (.fields #[(.str (.ofString "weight_on_leg") 447), (.str (.ofString "Voyage.weight_on_leg") 448), (.str (.ofString "/claim/cut.py") 449), (.int 112 0), (.int 2 0), (.int 0 0), (.int 0 0), (.int 3 0), (.ref 209), (.bool true), (.int 181 0), (.ref 210), .none, (.ref 211), (.ref 212), (.ref 213), (.int 452 0), (.int 112 0), (.str (.ofString "/claim/cut.py") 453)]), #[]⟩
def o215_4 (P : Params) : Obj := ⟨(.type "function"), none, (.func { name := (.ofString "weight_on_leg"), qualname := (.ofString "Voyage.weight_on_leg"), params := (sar (nth (inn (nth bd 10)) 10)), body := (.stmts (inn (nth (inn (nth bd 10)) 10))), scope := (ssc (nth (inn (nth bd 10)) 11)), globals := 3, closure := [], defaults := .none, kwdefaults := .none, doc := .none, pyModule := (.str (.ofString "bayplan.cargo") 232), annotations := none, code := (.ref 214), closureTuple := .none, builtins := 0 }), #[]⟩
def o216_4 (P : Params) : Obj := ⟨(.type "tuple"), none, (.seq #[] 0), #[]⟩
def o217_4 (P : Params) : Obj := ⟨.none, none, (.fields #[]), #[]⟩
def o218_4 (P : Params) : Obj := ⟨(.type "tuple"), none, (.seq #[(.str (.ofString "self") 458), (.str (.ofString "leg") 459)] 0), #[]⟩
def o219_4 (P : Params) : Obj := ⟨(.type "tuple"), none, (.seq #[] 0), #[]⟩
def o220_4 (P : Params) : Obj := ⟨.none, none, (.func { name := (.ofString "units"), qualname := (.ofString "Voyage.units"), params := (sar (nth (inn (nth bd 10)) 11)), body := (.stmts (inn (nth (inn (nth bd 10)) 11))), scope := (ssc (nth (inn (nth bd 10)) 11)), globals := 0, closure := [], defaults := .none, kwdefaults := .none, doc := .none, pyModule := .none, annotations := none, code := .none, closureTuple := .none, builtins := 0 }), #[]⟩
def o221_4 (P : Params) : Obj := ⟨(.type "code"), none, (.fields #[(.str (.ofString "units") 455), (.str (.ofString "Voyage.units") 456), (.str (.ofString "/claim/cut.py") 457), (.int 115 0), (.int 2 0), (.int 0 0), (.int 0 0), (.int 3 0), (.ref 216), (.bool true), (.int 181 0), (.ref 217), .none, (.ref 218), (.ref 219), (.ref 220), (.int 460 0), (.int 115 0), (.str (.ofString "/claim/cut.py") 461)]), #[]⟩
def o222_4 (P : Params) : Obj := ⟨(.type "function"), none, (.func { name := (.ofString "units"), qualname := (.ofString "Voyage.units"), params := (sar (nth (inn (nth bd 10)) 11)), body := (.stmts (inn (nth (inn (nth bd 10)) 11))), scope := (ssc (nth (inn (nth bd 10)) 11)), globals := 3, closure := [], defaults := .none, kwdefaults := .none, doc := .none, pyModule := (.str (.ofString "bayplan.cargo") 232), annotations := none, code := (.ref 221), closureTuple := .none, builtins := 0 }), #[]⟩
def o223_4 (P : Params) : Obj := ⟨(.type "tuple"), none, (.seq #[(.str (.ofString "containers") 463), (.str (.ofString "ports") 464)] 0), #[]⟩
def o224_4 (P : Params) : Obj := ⟨(.type "dict"), none, (.dict #[en P (.ofString "__module__") 371 (.str (.ofString "bayplan.cargo") 232), en P (.ofString "__firstlineno__") 375 (.int 67 374), en P (.ofString "__init__") 381 (.ref 151), en P (.ofString "legs") 388 (.ref 158), en P (.ofString "port") 397 (.ref 165), en P (.ofString "add") 405 (.ref 172), en P (.ofString "get") 413 (.ref 179), en P (.ofString "names") 420 (.ref 186), en P (.ofString "on_leg") 426 (.ref 191), en P (.ofString "loaded_at") 432 (.ref 196), en P (.ofString "discharged_at") 438 (.ref 201), en P (.ofString "staying_at") 446 (.ref 208), en P (.ofString "weight_on_leg") 454 (.ref 215), en P (.ofString "units") 462 (.ref 222), en P (.ofString "__static_attributes__") 465 (.ref 223), en P (.ofString "__dict__") 467 (.ref 226), en P (.ofString "__weakref__") 469 (.ref 227), en P (.ofString "__doc__") 470 .none] 4), #[]⟩
def o225_4 (P : Params) : Obj := ⟨(.type "type"), none, (.cls { name := (.ofString "Voyage"), bases := [(.type "object")], mro := [(.ref 225), (.type "object")], ns := 224, qualname := (.ofString "Voyage"), hasDict := true, slotNames := [], subclasses := [], abstract := false, collection := none, hasDel := false }), #[none, none, (some (.str (.ofString "Voyage") 364)), (some (.str (.ofString "Voyage") 372)), (some (.builtin "object.__new__")), (some (.bool true))]⟩
def o226_4 (P : Params) : Obj := ⟨(.type "getset_descriptor"), none, (.fields #[(.str (.ofString "__dict__") 466), (.ref 225), (.builtin "function.__dict__"), (.builtin "function.__dict__#set")]), #[]⟩
def o227_4 (P : Params) : Obj := ⟨(.type "getset_descriptor"), none, (.fields #[(.str (.ofString "__weakref__") 468), (.ref 225), (.builtin "ExceptionGroup.__weakref__"), .none]), #[]⟩
def o228_4 (P : Params) : Obj := ⟨(.type "super"), none, (.fields #[(.ref 225), (.ref 225), (.ref 225)]), #[]⟩
def o229_4 (P : Params) : Obj := ⟨(.type "builtin_function_or_method"), none, (.fields #[(.builtin "object.__init_subclass__"), (.ref 225)]), #[]⟩
def o230_4 (P : Params) : Obj := ⟨(.type "tuple"), none, (.seq #[] 0), #[]⟩
def o231_4 (P : Params) : Obj := ⟨.none, none, (.fields #[]), #[]⟩
def o232_4 (P : Params) : Obj := ⟨(.type "tuple"), none, (.seq #[(.str (.ofString "script") 478), (.str (.ofString "k") 479)] 0), #[]⟩
def o233_4 (P : Params) : Obj := ⟨(.type "tuple"), none, (.seq #[] 0), #[]⟩
def o234_4 (P : Params) : Obj := ⟨.none, none, (.func { name := (.ofString "_law_cell"), qualname := (.ofString "_law_cell"), params := (sar (nth bd 12)), body := (.stmts (inn (nth bd 12))), scope := (ssc (nth bd 12)), globals := 0, closure := [], defaults := .none, kwdefaults := .none, doc := .none, pyModule := .none, annotations := none, code := .none, closureTuple := .none, builtins := 0 }), #[]⟩
def o235_4 (P : Params) : Obj := ⟨(.type "code"), none, (.fields #[(.str (.ofString "_law_cell") 475), (.str (.ofString "_law_cell") 476), (.str (.ofString "/claim/cut.py") 477), (.int 118 0), (.int 2 0), (.int 0 0), (.int 0 0), (.int 3 0), (.ref 230), (.bool true), (.int 181 0), (.ref 231), .none, (.ref 232), (.ref 233), (.ref 234), (.int 480 0), (.int 118 0), (.str (.ofString "/claim/cut.py") 481)]), #[]⟩
def o236_4 (P : Params) : Obj := ⟨(.type "function"), none, (.func { name := (.ofString "_law_cell"), qualname := (.ofString "_law_cell"), params := (sar (nth bd 12)), body := (.stmts (inn (nth bd 12))), scope := (ssc (nth bd 12)), globals := 3, closure := [], defaults := .none, kwdefaults := .none, doc := .none, pyModule := (.str (.ofString "law_ui0503_04") 473), annotations := none, code := (.ref 235), closureTuple := .none, builtins := 0 }), #[]⟩
def T3 (P : Params) : BT := (.node (PySem.W.boot_o_0 P) (.node (PySem.W.boot_o_1 P) (.node (o3_4 P) (.node (PySem.W.boot_o_7 P) (.node (o15_2 P) (.node (o31_2 P) (.node (o63_3 P) (.node (o127_3 P) .nil .nil) (.node (o191_4 P) .nil .nil)) (.node (o95_3 P) (.node (o159_4 P) .nil .nil) (.node (o223_4 P) .nil .nil))) (.node (o47_2 P) (.node (o79_3 P) (.node (o143_4 P) .nil .nil) (.node (o207_4 P) .nil .nil)) (.node (o111_3 P) (.node (o175_4 P) .nil .nil) .nil))) (.node (o23_2 P) (.node (o39_2 P) (.node (o71_3 P) (.node (o135_3 P) .nil .nil) (.node (o199_4 P) .nil .nil)) (.node (o103_3 P) (.node (o167_4 P) .nil .nil) (.node (o231_4 P) .nil .nil))) (.node (o55_3 P) (.node (o87_3 P) (.node (o151_4 P) .nil .nil) (.node (o215_4 P) .nil .nil)) (.node (o119_3 P) (.node (o183_4 P) .nil .nil) .nil)))) (.node (o11_0 P) (.node (o19_2 P) (.node (o35_2 P) (.node (o67_3 P) (.node (o131_3 P) .nil .nil) (.node (o195_4 P) .nil .nil)) (.node (o99_3 P) (.node (o163_4 P) .nil .nil) (.node (o227_4 P) .nil .nil))) (.node (o51_2 P) (.node (o83_3 P) (.node (o147_4 P) .nil .nil) (.node (o211_4 P) .nil .nil)) (.node (o115_3 P) (.node (o179_4 P) .nil .nil) .nil))) (.node (o27_2 P) (.node (o43_2 P) (.node (o75_3 P) (.node (o139_3 P) .nil .nil) (.node (o203_4 P) .nil .nil)) (.node (o107_3 P) (.node (o171_4 P) .nil .nil) (.node (o235_4 P) .nil .nil))) (.node (o59_3 P) (.node (o91_3 P) (.node (o155_4 P) .nil .nil) (.node (o219_4 P) .nil .nil)) (.node (o123_3 P) (.node (o187_4 P) .nil .nil) .nil))))) (.node (PySem.W.boot_o_5 P) (.node (PySem.W.boot_o_9 P) (.node (o17_2 P) (.node (o33_2 P) (.node (o65_3 P) (.node (o129_3 P) .nil .nil) (.node (o193_4 P) .nil .nil)) (.node (o97_3 P) (.node (o161_4 P) .nil .nil) (.node (o225_4 P) .nil .nil))) (.node (o49_2 P) (.node (o81_3 P) (.node (o145_4 P) .nil .nil) (.node (o209_4 P) .nil .nil)) (.node (o113_3 P) (.node (o177_4 P) .nil .nil) .nil))) (.node (o25_2 P) (.node (o41_2 P) (.node (o73_3 P) (.node (o137_3 P) .nil .nil) (.node (o201_4 P) .nil .nil)) (.node (o105_3 P) (.node (o169_4 P) .nil .nil) (.node (o233_4 P) .nil .nil))) (.node (o57_3 P) (.node (o89_3 P) (.node (o153_4 P) .nil .nil) (.node (o217_4 P) .nil .nil)) (.node (o121_3 P) (.node (o185_4 P) .nil .nil) .nil)))) (.node (o13_0 P) (.node (o21_2 P) (.node (o37_2 P) (.node (o69_3 P) (.node (o133_3 P) .nil .nil) (.node (o197_4 P) .nil .nil)) (.node (o101_3 P) (.node (o165_4 P) .nil .nil) (.node (o229_4 P) .nil .nil))) (.node (o53_2 P) (.node (o85_3 P) (.node (o149_4 P) .nil .nil) (.node (o213_4 P) .nil .nil)) (.node (o117_3 P) (.node (o181_4 P) .nil .nil) .nil))) (.node (o29_2 P) (.node (o45_2 P) (.node (o77_3 P) (.node (o141_4 P) .nil .nil) (.node (o205_4 P) .nil .nil)) (.node (o109_3 P) (.node (o173_4 P) .nil .nil) .nil)) (.node (o61_3 P) (.node (o93_3 P) (.node (o157_4 P) .nil .nil) (.node (o221_4 P) .nil .nil)) (.node (o125_3 P) (.node (o189_4 P) .nil .nil) .nil)))))) (.node (o2_2 P) (.node (PySem.W.boot_o_4 P) (.node (PySem.W.boot_o_8 P) (.node (o16_2 P) (.node (o32_2 P) (.node (o64_3 P) (.node (o128_3 P) .nil .nil) (.node (o192_4 P) .nil .nil)) (.node (o96_3 P) (.node (o160_4 P) .nil .nil) (.node (o224_4 P) .nil .nil))) (.node (o48_2 P) (.node (o80_3 P) (.node (o144_4 P) .nil .nil) (.node (o208_4 P) .nil .nil)) (.node (o112_3 P) (.node (o176_4 P) .nil .nil) .nil))) (.node (o24_2 P) (.node (o40_2 P) (.node (o72_3 P) (.node (o136_3 P) .nil .nil) (.node (o200_4 P) .nil .nil)) (.node (o104_3 P) (.node (o168_4 P) .nil .nil) (.node (o232_4 P) .nil .nil))) (.node (o56_3 P) (.node (o88_3 P) (.node (o152_4 P) .nil .nil) (.node (o216_4 P) .nil .nil)) (.node (o120_3 P) (.node (o184_4 P) .nil .nil) .nil)))) (.node (o12_4 P) (.node (o20_2 P) (.node (o36_2 P) (.node (o68_3 P) (.node (o132_3 P) .nil .nil) (.node (o196_4 P) .nil .nil)) (.node (o100_3 P) (.node (o164_4 P) .nil .nil) (.node (o228_4 P) .nil .nil))) (.node (o52_2 P) (.node (o84_3 P) (.node (o148_4 P) .nil .nil) (.node (o212_4 P) .nil .nil)) (.node (o116_3 P) (.node (o180_4 P) .nil .nil) .nil))) (.node (o28_2 P) (.node (o44_2 P) (.node (o76_3 P) (.node (o140_4 P) .nil .nil) (.node (o204_4 P) .nil .nil)) (.node (o108_3 P) (.node (o172_4 P) .nil .nil) (.node (o236_4 P) .nil .nil))) (.node (o60_3 P) (.node (o92_3 P) (.node (o156_4 P) .nil .nil) (.node (o220_4 P) .nil .nil)) (.node (o124_3 P) (.node (o188_4 P) .nil .nil) .nil))))) (.node (PySem.W.boot_o_6 P) (.node (PySem.W.boot_o_10 P) (.node (o18_2 P) (.node (o34_2 P) (.node (o66_3 P) (.node (o130_3 P) .nil .nil) (.node (o194_4 P) .nil .nil)) (.node (o98_3 P) (.node (o162_4 P) .nil .nil) (.node (o226_4 P) .nil .nil))) (.node (o50_2 P) (.node (o82_3 P) (.node (o146_4 P) .nil .nil) (.node (o210_4 P) .nil .nil)) (.node (o114_3 P) (.node (o178_4 P) .nil .nil) .nil))) (.node (o26_2 P) (.node (o42_2 P) (.node (o74_3 P) (.node (o138_3 P) .nil .nil) (.node (o202_4 P) .nil .nil)) (.node (o106_3 P) (.node (o170_4 P) .nil .nil) (.node (o234_4 P) .nil .nil))) (.node (o58_3 P) (.node (o90_3 P) (.node (o154_4 P) .nil .nil) (.node (o218_4 P) .nil .nil)) (.node (o122_3 P) (.node (o186_4 P) .nil .nil) .nil)))) (.node (o14_0 P) (.node (o22_2 P) (.node (o38_2 P) (.node (o70_3 P) (.node (o134_3 P) .nil .nil) (.node (o198_4 P) .nil .nil)) (.node (o102_3 P) (.node (o166_4 P) .nil .nil) (.node (o230_4 P) .nil .nil))) (.node (o54_2 P) (.node (o86_3 P) (.node (o150_4 P) .nil .nil) (.node (o214_4 P) .nil .nil)) (.node (o118_3 P) (.node (o182_4 P) .nil .nil) .nil))) (.node (o30_2 P) (.node (o46_2 P) (.node (o78_3 P) (.node (o142_4 P) .nil .nil) (.node (o206_4 P) .nil .nil)) (.node (o110_3 P) (.node (o174_4 P) .nil .nil) .nil)) (.node (o62_3 P) (.node (o94_3 P) (.node (o158_4 P) .nil .nil) (.node (o222_4 P) .nil .nil)) (.node (o126_3 P) (.node (o190_4 P) .nil .nil) .nil)))))))
def o3_5 (P : Params) : Obj := ⟨(.type "dict"), none, (.dict #[en P (.ofString "__name__") 165 (.str (.ofString "law_ui0503_04") 473), en P (.ofString "__doc__") 166 .none, en P (.ofString "__package__") 167 .none, en P (.ofString "__loader__") 168 (.builtin "__main__.__loader__#opaque"), en P (.ofString "__spec__") 169 .none, en P (.ofString "__annotations__") 170 (.ref 6), en P (.ofString "__builtins__") 171 (.ref 4), en P (.ofString "__file__") 173 (.str (.ofString "/claim/cut.py") 172), en P (.ofString "__cached__") 174 .none, en P (.ofString "_wall") 193 (.ref 21), en P (.ofString "StowError") 215 (.ref 31), en P (.ofString "CargoError") 231 (.ref 44), en P (.ofString "SHORT") 235 (.int 20 234), en P (.ofString "LONG") 237 (.int 40 236), en P (.ofString "HEIGHTS") 244 (.ref 47), en P (.ofString "is_word") 251 (.ref 54), en P (.ofString "Container") 363 (.ref 135), en P (.ofString "Voyage") 472 (.ref 225), en P (.ofString "_law_cell") 482 (.ref 236), en P (.ofString "law") 488 (.ref 241)] 20), #[]⟩
def o12_5 (P : Params) : Obj := ⟨.none, none, (.fields #[(.int 1 0), (.int 0 0), (.ref 20), (.int 5 0), (.int 0 0), (.ref 27), (.int 7 0), (.int 0 0), (.ref 40), (.int 13 0), (.int 0 0), (.ref 53), (.int 15 0), (.int 0 0), (.ref 60), (.int 67 0), (.int 0 0), (.ref 145), (.int 118 0), (.int 0 0), (.ref 235), (.int 122 0), (.int 0 0), (.ref 240)]), #[]⟩
def o237_5 (P : Params) : Obj := ⟨(.type "tuple"), none, (.seq #[] 0), #[]⟩
def o238_5 (P : Params) : Obj := ⟨.none, none, (.fields #[]), #[]⟩
def o239_5 (P : Params) : Obj := ⟨.none, none, (.func { name := (.ofString "law"), qualname := (.ofString "law"), params := (sar (nth bd 13)), body := (.stmts (inn (nth bd 13))), scope := (ssc (nth bd 13)), globals := 0, closure := [], defaults := .none, kwdefaults := .none, doc := .none, pyModule := .none, annotations := none, code := .none, closureTuple := .none, builtins := 0 }), #[]⟩
def o240_5 (P : Params) : Obj := ⟨(.type "code"), none, (.fields #[(.str (.ofString "law") 483), (.str (.ofString "law") 484), (.str (.ofString "/claim/cut.py") 485), (.int 122 0), (.int 1 0), (.int 0 0), (.int 0 0), (.int 3 0), (.ref 237), (.bool true), (.int 181 0), (.ref 238), .none, .none, .none, (.ref 239), (.int 486 0), (.int 122 0), (.str (.ofString "/claim/cut.py") 487)]), #[]⟩
def o241_5 (P : Params) : Obj := ⟨(.type "function"), none, (.func { name := (.ofString "law"), qualname := (.ofString "law"), params := (sar (nth bd 13)), body := (.stmts (inn (nth bd 13))), scope := (ssc (nth bd 13)), globals := 3, closure := [], defaults := .none, kwdefaults := .none, doc := .none, pyModule := (.str (.ofString "law_ui0503_04") 473), annotations := none, code := (.ref 240), closureTuple := .none, builtins := 0 }), #[]⟩
def T4 (P : Params) : BT := (.node (PySem.W.boot_o_0 P) (.node (PySem.W.boot_o_1 P) (.node (o3_5 P) (.node (PySem.W.boot_o_7 P) (.node (o15_2 P) (.node (o31_2 P) (.node (o63_3 P) (.node (o127_3 P) .nil .nil) (.node (o191_4 P) .nil .nil)) (.node (o95_3 P) (.node (o159_4 P) .nil .nil) (.node (o223_4 P) .nil .nil))) (.node (o47_2 P) (.node (o79_3 P) (.node (o143_4 P) .nil .nil) (.node (o207_4 P) .nil .nil)) (.node (o111_3 P) (.node (o175_4 P) .nil .nil) (.node (o239_5 P) .nil .nil)))) (.node (o23_2 P) (.node (o39_2 P) (.node (o71_3 P) (.node (o135_3 P) .nil .nil) (.node (o199_4 P) .nil .nil)) (.node (o103_3 P) (.node (o167_4 P) .nil .nil) (.node (o231_4 P) .nil .nil))) (.node (o55_3 P) (.node (o87_3 P) (.node (o151_4 P) .nil .nil) (.node (o215_4 P) .nil .nil)) (.node (o119_3 P) (.node (o183_4 P) .nil .nil) .nil)))) (.node (o11_0 P) (.node (o19_2 P) (.node (o35_2 P) (.node (o67_3 P) (.node (o131_3 P) .nil .nil) (.node (o195_4 P) .nil .nil)) (.node (o99_3 P) (.node (o163_4 P) .nil .nil) (.node (o227_4 P) .nil .nil))) (.node (o51_2 P) (.node (o83_3 P) (.node (o147_4 P) .nil .nil) (.node (o211_4 P) .nil .nil)) (.node (o115_3 P) (.node (o179_4 P) .nil .nil) .nil))) (.node (o27_2 P) (.node (o43_2 P) (.node (o75_3 P) (.node (o139_3 P) .nil .nil) (.node (o203_4 P) .nil .nil)) (.node (o107_3 P) (.node (o171_4 P) .nil .nil) (.node (o235_4 P) .nil .nil))) (.node (o59_3 P) (.node (o91_3 P) (.node (o155_4 P) .nil .nil) (.node (o219_4 P) .nil .nil)) (.node (o123_3 P) (.node (o187_4 P) .nil .nil) .nil))))) (.node (PySem.W.boot_o_5 P) (.node (PySem.W.boot_o_9 P) (.node (o17_2 P) (.node (o33_2 P) (.node (o65_3 P) (.node (o129_3 P) .nil .nil) (.node (o193_4 P) .nil .nil)) (.node (o97_3 P) (.node (o161_4 P) .nil .nil) (.node (o225_4 P) .nil .nil))) (.node (o49_2 P) (.node (o81_3 P) (.node (o145_4 P) .nil .nil) (.node (o209_4 P) .nil .nil)) (.node (o113_3 P) (.node (o177_4 P) .nil .nil) (.node (o241_5 P) .nil .nil)))) (.node (o25_2 P) (.node (o41_2 P) (.node (o73_3 P) (.node (o137_3 P) .nil .nil) (.node (o201_4 P) .nil .nil)) (.node (o105_3 P) (.node (o169_4 P) .nil .nil) (.node (o233_4 P) .nil .nil))) (.node (o57_3 P) (.node (o89_3 P) (.node (o153_4 P) .nil .nil) (.node (o217_4 P) .nil .nil)) (.node (o121_3 P) (.node (o185_4 P) .nil .nil) .nil)))) (.node (o13_0 P) (.node (o21_2 P) (.node (o37_2 P) (.node (o69_3 P) (.node (o133_3 P) .nil .nil) (.node (o197_4 P) .nil .nil)) (.node (o101_3 P) (.node (o165_4 P) .nil .nil) (.node (o229_4 P) .nil .nil))) (.node (o53_2 P) (.node (o85_3 P) (.node (o149_4 P) .nil .nil) (.node (o213_4 P) .nil .nil)) (.node (o117_3 P) (.node (o181_4 P) .nil .nil) .nil))) (.node (o29_2 P) (.node (o45_2 P) (.node (o77_3 P) (.node (o141_4 P) .nil .nil) (.node (o205_4 P) .nil .nil)) (.node (o109_3 P) (.node (o173_4 P) .nil .nil) (.node (o237_5 P) .nil .nil))) (.node (o61_3 P) (.node (o93_3 P) (.node (o157_4 P) .nil .nil) (.node (o221_4 P) .nil .nil)) (.node (o125_3 P) (.node (o189_4 P) .nil .nil) .nil)))))) (.node (o2_2 P) (.node (PySem.W.boot_o_4 P) (.node (PySem.W.boot_o_8 P) (.node (o16_2 P) (.node (o32_2 P) (.node (o64_3 P) (.node (o128_3 P) .nil .nil) (.node (o192_4 P) .nil .nil)) (.node (o96_3 P) (.node (o160_4 P) .nil .nil) (.node (o224_4 P) .nil .nil))) (.node (o48_2 P) (.node (o80_3 P) (.node (o144_4 P) .nil .nil) (.node (o208_4 P) .nil .nil)) (.node (o112_3 P) (.node (o176_4 P) .nil .nil) (.node (o240_5 P) .nil .nil)))) (.node (o24_2 P) (.node (o40_2 P) (.node (o72_3 P) (.node (o136_3 P) .nil .nil) (.node (o200_4 P) .nil .nil)) (.node (o104_3 P) (.node (o168_4 P) .nil .nil) (.node (o232_4 P) .nil .nil))) (.node (o56_3 P) (.node (o88_3 P) (.node (o152_4 P) .nil .nil) (.node (o216_4 P) .nil .nil)) (.node (o120_3 P) (.node (o184_4 P) .nil .nil) .nil)))) (.node (o12_5 P) (.node (o20_2 P) (.node (o36_2 P) (.node (o68_3 P) (.node (o132_3 P) .nil .nil) (.node (o196_4 P) .nil .nil)) (.node (o100_3 P) (.node (o164_4 P) .nil .nil) (.node (o228_4 P) .nil .nil))) (.node (o52_2 P) (.node (o84_3 P) (.node (o148_4 P) .nil .nil) (.node (o212_4 P) .nil .nil)) (.node (o116_3 P) (.node (o180_4 P) .nil .nil) .nil))) (.node (o28_2 P) (.node (o44_2 P) (.node (o76_3 P) (.node (o140_4 P) .nil .nil) (.node (o204_4 P) .nil .nil)) (.node (o108_3 P) (.node (o172_4 P) .nil .nil) (.node (o236_4 P) .nil .nil))) (.node (o60_3 P) (.node (o92_3 P) (.node (o156_4 P) .nil .nil) (.node (o220_4 P) .nil .nil)) (.node (o124_3 P) (.node (o188_4 P) .nil .nil) .nil))))) (.node (PySem.W.boot_o_6 P) (.node (PySem.W.boot_o_10 P) (.node (o18_2 P) (.node (o34_2 P) (.node (o66_3 P) (.node (o130_3 P) .nil .nil) (.node (o194_4 P) .nil .nil)) (.node (o98_3 P) (.node (o162_4 P) .nil .nil) (.node (o226_4 P) .nil .nil))) (.node (o50_2 P) (.node (o82_3 P) (.node (o146_4 P) .nil .nil) (.node (o210_4 P) .nil .nil)) (.node (o114_3 P) (.node (o178_4 P) .nil .nil) .nil))) (.node (o26_2 P) (.node (o42_2 P) (.node (o74_3 P) (.node (o138_3 P) .nil .nil) (.node (o202_4 P) .nil .nil)) (.node (o106_3 P) (.node (o170_4 P) .nil .nil) (.node (o234_4 P) .nil .nil))) (.node (o58_3 P) (.node (o90_3 P) (.node (o154_4 P) .nil .nil) (.node (o218_4 P) .nil .nil)) (.node (o122_3 P) (.node (o186_4 P) .nil .nil) .nil)))) (.node (o14_0 P) (.node (o22_2 P) (.node (o38_2 P) (.node (o70_3 P) (.node (o134_3 P) .nil .nil) (.node (o198_4 P) .nil .nil)) (.node (o102_3 P) (.node (o166_4 P) .nil .nil) (.node (o230_4 P) .nil .nil))) (.node (o54_2 P) (.node (o86_3 P) (.node (o150_4 P) .nil .nil) (.node (o214_4 P) .nil .nil)) (.node (o118_3 P) (.node (o182_4 P) .nil .nil) .nil))) (.node (o30_2 P) (.node (o46_2 P) (.node (o78_3 P) (.node (o142_4 P) .nil .nil) (.node (o206_4 P) .nil .nil)) (.node (o110_3 P) (.node (o174_4 P) .nil .nil) (.node (o238_5 P) .nil .nil))) (.node (o62_3 P) (.node (o94_3 P) (.node (o158_4 P) .nil .nil) (.node (o222_4 P) .nil .nil)) (.node (o126_3 P) (.node (o190_4 P) .nil .nil) .nil)))))))
def Hf (P : Params) : Heap := ⟨⟨[PySem.W.boot_o_0 P, PySem.W.boot_o_1 P, o2_2 P, o3_5 P, PySem.W.boot_o_4 P, PySem.W.boot_o_5 P, PySem.W.boot_o_6 P, PySem.W.boot_o_7 P, PySem.W.boot_o_8 P, PySem.W.boot_o_9 P, PySem.W.boot_o_10 P, o11_0 P, o12_5 P, o13_0 P, o14_0 P, o15_2 P, o16_2 P, o17_2 P, o18_2 P, o19_2 P, o20_2 P, o21_2 P, o22_2 P, o23_2 P, o24_2 P, o25_2 P, o26_2 P, o27_2 P, o28_2 P, o29_2 P, o30_2 P, o31_2 P, o32_2 P, o33_2 P, o34_2 P, o35_2 P, o36_2 P, o37_2 P, o38_2 P, o39_2 P, o40_2 P, o41_2 P, o42_2 P, o43_2 P, o44_2 P, o45_2 P, o46_2 P, o47_2 P, o48_2 P, o49_2 P, o50_2 P, o51_2 P, o52_2 P, o53_2 P, o54_2 P, o55_3 P, o56_3 P, o57_3 P, o58_3 P, o59_3 P, o60_3 P, o61_3 P, o62_3 P, o63_3 P, o64_3 P, o65_3 P, o66_3 P, o67_3 P, o68_3 P, o69_3 P, o70_3 P, o71_3 P, o72_3 P, o73_3 P, o74_3 P, o75_3 P, o76_3 P, o77_3 P, o78_3 P, o79_3 P, o80_3 P, o81_3 P, o82_3 P, o83_3 P, o84_3 P, o85_3 P, o86_3 P, o87_3 P, o88_3 P, o89_3 P, o90_3 P, o91_3 P, o92_3 P, o93_3 P, o94_3 P, o95_3 P, o96_3 P, o97_3 P, o98_3 P, o99_3 P, o100_3 P, o101_3 P, o102_3 P, o103_3 P, o104_3 P, o105_3 P, o106_3 P, o107_3 P, o108_3 P, o109_3 P, o110_3 P, o111_3 P, o112_3 P, o113_3 P, o114_3 P, o115_3 P, o116_3 P, o117_3 P, o118_3 P, o119_3 P, o120_3 P, o121_3 P, o122_3 P, o123_3 P, o124_3 P, o125_3 P, o126_3 P, o127_3 P, o128_3 P, o129_3 P, o130_3 P, o131_3 P, o132_3 P, o133_3 P, o134_3 P, o135_3 P, o136_3 P, o137_3 P, o138_3 P, o139_3 P, o140_4 P, o141_4 P, o142_4 P, o143_4 P, o144_4 P, o145_4 P, o146_4 P, o147_4 P, o148_4 P, o149_4 P, o150_4 P, o151_4 P, o152_4 P, o153_4 P, o154_4 P, o155_4 P, o156_4 P, o157_4 P, o158_4 P, o159_4 P, o160_4 P, o161_4 P, o162_4 P, o163_4 P, o164_4 P, o165_4 P, o166_4 P, o167_4 P, o168_4 P, o169_4 P, o170_4 P, o171_4 P, o172_4 P, o173_4 P, o174_4 P, o175_4 P, o176_4 P, o177_4 P, o178_4 P, o179_4 P, o180_4 P, o181_4 P, o182_4 P, o183_4 P, o184_4 P, o185_4 P, o186_4 P, o187_4 P, o188_4 P, o189_4 P, o190_4 P, o191_4 P, o192_4 P, o193_4 P, o194_4 P, o195_4 P, o196_4 P, o197_4 P, o198_4 P, o199_4 P, o200_4 P, o201_4 P, o202_4 P, o203_4 P, o204_4 P, o205_4 P, o206_4 P, o207_4 P, o208_4 P, o209_4 P, o210_4 P, o211_4 P, o212_4 P, o213_4 P, o214_4 P, o215_4 P, o216_4 P, o217_4 P, o218_4 P, o219_4 P, o220_4 P, o221_4 P, o222_4 P, o223_4 P, o224_4 P, o225_4 P, o226_4 P, o227_4 P, o228_4 P, o229_4 P, o230_4 P, o231_4 P, o232_4 P, o233_4 P, o234_4 P, o235_4 P, o236_4 P, o237_5 P, o238_5 P, o239_5 P, o240_5 P, o241_5 P]⟩, {}⟩
def K (P : Params) : Frag := [(2, o2_2 P), (3, o3_5 P), (15, o15_2 P), (17, o17_2 P), (18, o18_2 P), (20, o20_2 P), (21, o21_2 P), (22, o22_2 P), (29, o29_2 P), (30, o30_2 P), (31, o31_2 P), (32, o32_2 P), (35, o35_2 P), (42, o42_2 P), (43, o43_2 P), (44, o44_2 P), (47, o47_2 P), (48, o48_2 P), (50, o50_2 P), (51, o51_2 P), (53, o53_2 P), (54, o54_2 P), (62, o62_3 P), (63, o63_3 P), (65, o65_3 P), (66, o66_3 P), (68, o68_3 P), (69, o69_3 P), (70, o70_3 P), (72, o72_3 P), (73, o73_3 P), (75, o75_3 P), (76, o76_3 P), (77, o77_3 P), (79, o79_3 P), (80, o80_3 P), (82, o82_3 P), (83, o83_3 P), (84, o84_3 P), (86, o86_3 P), (87, o87_3 P), (89, o89_3 P), (90, o90_3 P), (91, o91_3 P), (93, o93_3 P), (94, o94_3 P), (96, o96_3 P), (97, o97_3 P), (98, o98_3 P), (100, o100_3 P), (101, o101_3 P), (103, o103_3 P), (104, o104_3 P), (105, o105_3 P), (107, o107_3 P), (108, o108_3 P), (110, o110_3 P), (111, o111_3 P), (112, o112_3 P), (114, o114_3 P), (115, o115_3 P), (117, o117_3 P), (118, o118_3 P), (119, o119_3 P), (121, o121_3 P), (122, o122_3 P), (124, o124_3 P), (125, o125_3 P), (126, o126_3 P), (128, o128_3 P), (129, o129_3 P), (131, o131_3 P), (132, o132_3 P), (133, o133_3 P), (134, o134_3 P), (135, o135_3 P), (136, o136_3 P), (137, o137_3 P), (147, o147_4 P), (150, o150_4 P), (151, o151_4 P), (152, o152_4 P), (154, o154_4 P), (155, o155_4 P), (157, o157_4 P), (158, o158_4 P), (159, o159_4 P), (161, o161_4 P), (162, o162_4 P), (164, o164_4 P), (165, o165_4 P), (166, o166_4 P), (168, o168_4 P), (169, o169_4 P), (171, o171_4 P), (172, o172_4 P), (173, o173_4 P), (175, o175_4 P), (176, o176_4 P), (178, o178_4 P), (179, o179_4 P), (180, o180_4 P), (182, o182_4 P), (183, o183_4 P), (185, o185_4 P), (186, o186_4 P), (187, o187_4 P), (190, o190_4 P), (191, o191_4 P), (192, o192_4 P), (195, o195_4 P), (196, o196_4 P), (197, o197_4 P), (200, o200_4 P), (201, o201_4 P), (202, o202_4 P), (204, o204_4 P), (205, o205_4 P), (207, o207_4 P), (208, o208_4 P), (209, o209_4 P), (211, o211_4 P), (212, o212_4 P), (214, o214_4 P), (215, o215_4 P), (216, o216_4 P), (218, o218_4 P), (219, o219_4 P), (221, o221_4 P), (222, o222_4 P), (223, o223_4 P), (224, o224_4 P), (225, o225_4 P), (226, o226_4 P), (227, o227_4 P), (230, o230_4 P), (232, o232_4 P), (233, o233_4 P), (235, o235_4 P), (236, o236_4 P), (237, o237_5 P), (240, o240_5 P), (241, o241_5 P)]
def as : List Addr := [2, 3, 15, 17, 18, 20, 21, 22, 29, 30, 31, 32, 35, 42, 43, 44, 47, 48, 50, 51, 53, 54, 62, 63, 65, 66, 68, 69, 70, 72, 73, 75, 76, 77, 79, 80, 82, 83, 84, 86, 87, 89, 90, 91, 93, 94, 96, 97, 98, 100, 101, 103, 104, 105, 107, 108, 110, 111, 112, 114, 115, 117, 118, 119, 121, 122, 124, 125, 126, 128, 129, 131, 132, 133, 134, 135, 136, 137, 147, 150, 151, 152, 154, 155, 157, 158, 159, 161, 162, 164, 165, 166, 168, 169, 171, 172, 173, 175, 176, 178, 179, 180, 182, 183, 185, 186, 187, 190, 191, 192, 195, 196, 197, 200, 201, 202, 204, 205, 207, 208, 209, 211, 212, 214, 215, 216, 218, 219, 221, 222, 223, 224, 225, 226, 227, 230, 232, 233, 235, 236, 237, 240, 241]
def ann : Option Value := (some (.ref 6))
def p0 : Pos := ⟨0, 0, 0, 0⟩
def p1 : Pos := ⟨0, 0, 0, 0⟩
def st0 (w : World) (os : OsState) : SharedT := ⟨T0 w.params, 15, {}, gs, dr, 187, os⟩
def pos1 : Pos := ⟨13, 0, 14, 53⟩
def st1 (w : World) (os : OsState) : SharedT := ⟨T1 w.params, 55, {}, gs, dr, 252, os⟩
def sts1 : List Stmt := (bd.drop 0).take 9
def pos2 : Pos := ⟨15, 0, 66, 48⟩
def st2 (w : World) (os : OsState) : SharedT := ⟨T2 w.params, 140, {}, gs, dr, 364, os⟩
def sts2 : List Stmt := (bd.drop 9).take 1
def pos3 : Pos := ⟨118, 0, 121, 12⟩
def st3 (w : World) (os : OsState) : SharedT := ⟨T3 w.params, 237, {}, gs, dr, 483, os⟩
def sts3 : List Stmt := (bd.drop 10).take 3
def pos4 : Pos := ⟨122, 0, 129, 55⟩
def st4 (w : World) (os : OsState) : SharedT := ⟨T4 w.params, 242, {}, gs, dr, 489, os⟩
def sts4 : List Stmt := (bd.drop 13).take 1
abbrev pos0 : Pos := p1
end Mine.Hd

end
namespace Mine.Hd
open PySem PySem.W PyProof.Rows
theorem pre_ok (w : World) : (fun os => topGo treeTable PySem.Challenge.pw_ui0503_04 w 11 ann 12 ⟨boot_heap w.params, gs, boot_drawn, boot_toks, os⟩ (topStub PySem.Challenge.pw_ui0503_04)) = fun os => some (⟨Ha w.params, gs, dr, 187, os⟩, ⟨denote treeTable cE, cE, p0, B⟩) := by
  rw [PySem.W.Fast.te15667345088766844465, PySem.W.Fast.te14364793385576792824, PySem.W.Fast.te11892475500146522536]
  kernel_rfl
theorem block_ok (w : World) : (fun os => segRun treeTable PySem.Challenge.pw_ui0503_04 w 11 ann 1 1 ⟨Ha w.params, gs, dr, 187, os⟩ (blockOf bd env cE p0 B)) = fun os => some (.next, (st0 w os).abs, cE, p1) := by
  rw [PySem.W.Fast.te14374325043358763698, PySem.W.Fast.te14364793385576792824]
  kernel_rfl
theorem g1_ok : ∀ w : World, (fun os => segRunT treeTable PySem.Challenge.pw_ui0503_04 w 11 ann 1 544 (st0 w os) (piecesOf sts1 env cE pos0 B)) = fun os => some (.next, st1 w os, cE, pos1) := by
  rw [PySem.W.Fast.te10110043849684766642, PySem.W.Fast.te14364793385576792824]
  refine byRow2 "special-get-raises" ?_ ?_ <;> intro w <;> kernel_rfl
theorem g2_ok (w : World) : (fun os => segRunT treeTable PySem.Challenge.pw_ui0503_04 w 11 ann 1 528 (st1 w os) (piecesOf sts2 env cE pos1 B)) = fun os => some (.next, st2 w os, cE, pos2) := by
  rw [PySem.W.Fast.te10110043849684766642, PySem.W.Fast.te14364793385576792824]
  kernel_rfl
theorem g3_ok (w : World) : (fun os => segRunT treeTable PySem.Challenge.pw_ui0503_04 w 11 ann 1 598 (st2 w os) (piecesOf sts3 env cE pos2 B)) = fun os => some (.next, st3 w os, cE, pos3) := by
  rw [PySem.W.Fast.te10110043849684766642, PySem.W.Fast.te14364793385576792824]
  kernel_rfl
theorem g4_ok (w : World) : (fun os => segRunT treeTable PySem.Challenge.pw_ui0503_04 w 11 ann 1 27 (st3 w os) (piecesOf sts4 env cE pos3 B)) = fun os => some (.next, st4 w os, cE, pos4) := by
  rw [PySem.W.Fast.te10110043849684766642, PySem.W.Fast.te14364793385576792824]
  kernel_rfl
theorem fin_ok (w : World) : (fun os => topRun treeTable PySem.Challenge.pw_ui0503_04 w 11 ann 2 (st4 w os).abs ⟨doneF .next, cE, pos4, B⟩) = fun os => some ⟨Hf w.params, gs, dr, 489, os⟩ := by
  rw [PySem.W.Fast.te14082659384304107361, PySem.W.Fast.te14364793385576792824]
  kernel_rfl
end Mine.Hd

noncomputable section
namespace Mine.Hd
open PySem PySem.W PyProof.Rows
abbrev pw : Program := PySem.Challenge.pw_ui0503_04
theorem sts_ok : bd = sts1 ++ (sts2 ++ (sts3 ++ (sts4 ++ []))) := by kernel_rfl
theorem run_ok (w : World) (os : OsState) : topRun treeTable pw w 11 ann (12 + (1 + (544 + (528 + (598 + (27 + 2)))))) ⟨boot_heap w.params, gs, boot_drawn, boot_toks, os⟩ (topStub pw) = some ⟨Hf w.params, gs, dr, 489, os⟩ := by
  refine go_top (congrFun (pre_ok w) os) ?_
  refine piece_block (b := bd) (env := env) (c := cE) (q := ⟨0, 0, 0, 0⟩) (congrFun (block_ok w) os) ?_
  rw [sts_ok]
  refine piece_app (segRun_of (congrFun (g1_ok w) os)) ?_
  refine piece_app (segRun_of (congrFun (g2_ok w) os)) ?_
  refine piece_app (segRun_of (congrFun (g3_ok w) os)) ?_
  refine piece_app (segRun_of (congrFun (g4_ok w) os)) ?_
  exact congrFun (fin_ok w) os
def pick (l : List Stmt) (is : List Nat) : List Stmt := is.filterMap fun i => l[i]?
def view : Program := { pw with main := { pw.main with body := pick pw.main.body [0, 2, 3, 5, 6, 7, 8, 9, 10, 12, 13] } }
def loose : List Str := [.ofString "HEIGHTS", .ofString "Container"]
theorem open_ok : opening pw = plainProg pw.main.scope.names := by kernel_rfl
theorem fence_ok (s : Shared) : fenceModules? pw s = some s := by kernel_rfl
theorem size_ok (w : World) : ((boot_heap w.params).isNs mainGlobals && gs.size == 0, (boot_heap w.params).objs.size, (boot_heap w.params).nsMap mainGlobals "__annotations__") = (true, 11, ann) := by kernel_rfl
abbrev hook : Hook := kHook K as (fun _ => by kernel_rfl)
abbrev rw' : OpenLaw := PySem.Challenge.rw_ui0503_04
theorem said_ok : rw'.wellSaid = true := by kernel_rfl
end Mine.Hd

end
noncomputable section
namespace Mine.Hd
open PySem PySem.W PyProof.Rows
theorem looks_ok (w : World) : (fun os => ((staticsOk (importedModules pw.main.body) (boot_heap w.params) (Hf w.params) && namesBound pw (Hf w.params) && gensDone ⟨Hf w.params, gs, dr, 489, os⟩ && laidKept (boot_heap w.params) (Hf w.params)),
        openSeen view loose (importedModules pw.main.body) (fun s => xlAt view [] s && recOk rw'.row.toRowW.records s) true ⟨Hf w.params, gs, dr, 489, os⟩, Hook.obs hook ⟨Hf w.params, gs, dr, 489, os⟩)) = fun (_ : OsState) => (true, openGood view loose, Hook.val hook w) := by
  rw [PySem.W.Fast.te4187177175401517315, PySem.W.Fast.te5923862056798008813]
  kernel_rfl
theorem left_ok : LeftO pw view loose (fun s => xlAt view [] s && recOk rw'.row.toRowW.records s) (Hook.obs hook) (Hook.val hook) 3512 :=
  LeftO.of_pieces (boot_open open_ok rfl fence_ok) size_ok run_ok rfl looks_ok
end Mine.Hd

end
set_option maxHeartbeats 0
noncomputable section
namespace Mine.Hd
open PySem PySem.W PyProof.Rows
def dk : DefRec × List (Str × Expr) := (defOf view rw'.row.name).getD (⟨.empty, noArgs, [], ssc (.Pass ⟨0, 0, 0, 0⟩), ⟨0, 0, 0, 0⟩⟩, [])
theorem dk_ok : defOf view rw'.row.name = some (dk.1, dk.2) := by kernel_rfl
theorem dp_ok : rw'.row.toRowW.prog.theDef rw'.row.name = some (dk.1.params, dk.1.body, dk.1.scope) := by kernel_rfl
theorem kw_ok : kwWritten? dk.1.params.kwonlyargs dk.1.params.kw_defaults = some dk.2 := by kernel_rfl
theorem ok_ok : (chainsOk view && opensWell rw'.row.toRowW.prog && (frees rw'.row.toRowW && rw'.row.within.isEmpty)) = true := by kernel_rfl
end Mine.Hd
end
open PySem PySem.W PySem.W.X PyProof.Rows
set_option maxHeartbeats 0 in
theorem PySem.Challenge.cw_ui0503_04_holds : PySem.Challenge.rw_ui0503_04.Holds := by
  w_on
  refine holds_law Mine.Hd.said_ok fun said => ?_
  refine holds_open (q := Mine.Hd.view) (loose := Mine.Hd.loose) (XP := XL Mine.Hd.view []) (Yf := Hook.obs Mine.Hd.hook) (Ya := Hook.val Mine.Hd.hook) (YP := Hook.says Mine.Hd.hook) Mine.Hd.left_ok (Hook.of Mine.Hd.hook) (Hook.keeps Mine.Hd.hook) (fun s e => xl_of s (Bool.and_eq_true_iff.mp e).1) XL.keeps Mine.Hd.dk_ok Mine.Hd.dp_ok Mine.Hd.kw_ok (fun s e => recFacts_of (Bool.and_eq_true_iff.mp e).2) (by first | rfl | fail "writes") said Mine.Hd.ok_ok ⟨rfl, rfl, rfl, rfl, rfl, by decide +kernel⟩ ?hw ?hc
  case hw => w_witness2
  intro w s₀ s₁ mg mb G Y fa o pm cd doc dV kV ho hd hcd hD hmg hg args vals as hpre hlay hrd hwl hlo
  have KX := kIn_of Y
  clear hD hcd hd
  refine Ground.open G ?_
  intro T B D TE TW
  try (refine guard_noD D (by decide +kernel) ?_; clear D)
  wrow_args hpre hlay hrd hwl hlo
  first | refine callC_kw (enter_call ?_) | refine enter_call ?_ | refine callC_kw (enter_callW ?_) | refine enter_callW ?_ | w_how
  w_top on
  try refine codeAny_mono ?_ (fun _ _ g => GoodW.toG g)
  refine Mine.law_top (G := Mine.L04.g) (n := 10) (d := Mine.L04.g_law) (l := PySem.Challenge.rw_ui0503_04) KX T (by decide +kernel) rfl hg (by assumption) (by assumption) rfl hmg rfl ?_ (by decide) ?_ (Mine.core _ (by assumption))
  · intro a o
    kernel_rfl
  · intro a o
    exact .inr ⟨_, _, _, rfl, rfl, ⟨_, _, rfl, rfl⟩, ⟨_, _, rfl, rfl⟩, trivial⟩

