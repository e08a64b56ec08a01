import PyProof.Rows.All
import Wide.All
import Open.Line
import KE.IntTextLaws
import Open.Boot
import Open.Tree
import PySem.Challenge.RW_uf030031_14
set_option Elab.async false
set_option genSizeOf false

-- part MiniDef
namespace Mine
open PySem (Operator UnaryOp CmpOp)

inductive Val where
  | none | bool (b : Bool) | int (i : Int) | str (s : List Nat) | ref (i : Nat)
  deriving DecidableEq

inductive MObj where
  | list (xs : List Val) | ro (xs : List Val) | tup (xs : List Val) | inst (fs : List (Option Val)) | aux
  deriving DecidableEq

noncomputable abbrev MH := List MObj
noncomputable abbrev Rho := List (Option Val)

inductive Res (α : Type) where
  | ok (a : α) (h : MH) | exc (c : Nat) (h : MH) | stuck

noncomputable def Res.bind {α β : Type} (r : Res α) (f : α → MH → Res β) : Res β :=
  match r with
  | .ok a h => f a h
  | .exc c h => .exc c h
  | .stuck => .stuck

@[simp] theorem Res.bind_ok {α β : Type} (a : α) (h : MH) (f : α → MH → Res β) : (Res.ok a h).bind f = f a h := rfl
@[simp] theorem Res.bind_exc {α β : Type} (c : Nat) (h : MH) (f : α → MH → Res β) : (Res.exc c h : Res α).bind f = .exc c h := rfl
@[simp] theorem Res.bind_stuck {α β : Type} (f : α → MH → Res β) : (Res.stuck : Res α).bind f = .stuck := rfl
theorem Res.bind_assoc {α β γ : Type} (r : Res α) (f : α → MH → Res β) (g : β → MH → Res γ) : (r.bind f).bind g = r.bind fun a h => (f a h).bind g := by
  cases r <;> rfl

noncomputable def Res.opt {α : Type} (o : Option α) (h : MH) : Res α := match o with | some a => .ok a h | none => .stuck
@[simp] theorem Res.opt_some {α : Type} (a : α) (h : MH) : Res.opt (some a) h = .ok a h := rfl
@[simp] theorem Res.opt_none {α : Type} (h : MH) : (Res.opt none h : Res α) = .stuck := rfl

inductive BI where
  | len | sum | min | max | int | str | all | list
  deriving DecidableEq
inductive Ty where
  | int | bool | list | tuple | str
  deriving DecidableEq
inductive Me where
  | append
  | split
  deriving DecidableEq

set_option genSizeOfSpec false in
set_option genInjectivity false in
inductive MExpr where
  | const (v : Val)
  | gconst (v : Val)
  | loc (i : Nat)
  | bin (op : Operator) (a b : MExpr)
  | un (op : UnaryOp) (a : MExpr)
  | and (a b : MExpr)
  | or (a b : MExpr)
  | cmp (op : CmpOp) (a b : MExpr)
  | cmp2 (op₁ op₂ : CmpOp) (a b c : MExpr)
  | isinst (t : Ty) (a : MExpr)
  | call (f : Nat) (args : MExpr)
  | bi (b : BI) (args : MExpr)
  | lrange (a : MExpr)
  | meth (m : Me) (o args : MExpr)
  | lst (es : MExpr)
  | tup (es : MExpr)
  | sub (o i : MExpr)
  | slice (o lo hi : MExpr)
  | srev (o : MExpr)
  | comp (elt tgt it cond : MExpr)
  | attr (o : MExpr) (k : Nat)
  | mcall (f : Nat) (o args : MExpr)
  | newT (f : Nat)
  | compz (a b : MExpr)
  | nil
  | cons (a b : MExpr)
  | irange (a : MExpr)
  | irange2 (a b : MExpr)
  | iobj (a : MExpr)

set_option genSizeOfSpec false in
set_option genInjectivity false in
inductive MStmt where
  | nil
  | cons (s r : MStmt)
  | assign (i : Nat) (e : MExpr)
  | asub (o i e : MExpr)
  | aattr (o : MExpr) (k : Nat) (e : MExpr)
  | atup (ts : List Nat) (e : MExpr)
  | expr (e : MExpr)
  | ifs (c : MExpr) (t e : MStmt)
  | fors (tgt it : MExpr) (b : MStmt)
  | whiles (c : MExpr) (b : MStmt)
  | ret (e : MExpr)
  | raise (c : Nat)
  | tryx (b : MStmt) (hs : List (Nat × Bool × Val))
  | tryk (b : MStmt) (k w : Nat)
  | wild

inductive MFlow where
  | next | ret (v : Val)
  deriving DecidableEq

structure MFun where
  np : Nat
  ns : Nat
  body : MStmt

noncomputable abbrev Cf := Nat → List Val → MH → Res Val

noncomputable def lim : Nat := 1048576

noncomputable def seqOf (h : MH) (i : Nat) : Option (Bool × List Val) :=
  match h[i]? with
  | some (.list xs) => some (true, xs)
  | some (.ro xs) => some (true, xs)
  | some (.tup xs) => some (false, xs)
  | _ => none

noncomputable def truthyV (h : MH) : Val → Option Bool
  | .none => some false
  | .bool b => some b
  | .int i => some (i != 0)
  | .str s => some (!s.isEmpty)
  | .ref i => match seqOf h i with | some (true, xs) => some (!xs.isEmpty) | _ => none

noncomputable def eqL (f : Val → Val → Option Bool) : List Val → List Val → Option Bool
  | x :: xs, y :: ys => (f x y).bind fun b => (eqL f xs ys).map fun c => b && c
  | _, _ => some true

noncomputable def eqP (v w : Val) : Option Bool := match v with
  | .none => (match w with | .none => some true | .ref _ => none | .bool _ => some false | .int _ => some false | .str _ => some false)
  | .bool a => (match w with | .bool b => some (a == b) | .int b => some ((if a then 1 else 0) == b) | .ref _ => none | .none => some false | .str _ => some false)
  | .int a => (match w with | .int b => some (a == b) | .bool b => some (a == (if b then 1 else 0)) | .ref _ => none | .none => some false | .str _ => some false)
  | .str a => (match w with | .str b => some (a == b) | .ref _ => none | .none => some false | .bool _ => some false | .int _ => some false)
  | .ref _ => none

noncomputable def eqV : Nat → MH → Val → Val → Option Bool
  | 0, _, v, w => eqP v w
  | n + 1, h, v, w =>
    match v, w with
    | .ref i, .ref j =>
      match seqOf h i, seqOf h j with
      | some (k, xs), some (l, ys) => if k = l then (if xs.length = ys.length then eqL (eqV n h) xs ys else if k then some false else none) else some false
      | _, _ => none
    | .ref i, _ => (seqOf h i).map fun _ => false
    | _, .ref j => (seqOf h j).map fun _ => false
    | v, w => eqP v w

noncomputable def inL (h : MH) (v : Val) : List Val → Option Bool
  | [] => some false
  | x :: xs => (eqV 4 h x v).bind fun b => (inL h v xs).map fun c => b || c

noncomputable def cmpI : CmpOp → Int → Int → Option Bool
  | .Lt, a, b => some (decide (a < b))
  | .LtE, a, b => some (decide (a ≤ b))
  | .Gt, a, b => some (decide (a > b))
  | .GtE, a, b => some (decide (a ≥ b))
  | _, _, _ => none

noncomputable def isNone : Val → Bool
  | .none => true
  | _ => false

noncomputable def inS (v : Val) (s : List Nat) : Option Bool := match v with
  | .str x => (match x with | [] => none | c :: r => (match r with | [] => some (decide (c ∈ s)) | _ :: _ => none))
  | .none => none | .bool _ => none | .int _ => none | .ref _ => none
noncomputable def inV (h : MH) (v w : Val) : Option Bool := match w with
  | .ref i => (match seqOf h i with | some (true, xs) => inL h v xs | some (false, _) => none | none => none)
  | .str s => inS v s
  | .none => none | .bool _ => none | .int _ => none

noncomputable def cmpII (op : CmpOp) (v w : Val) : Option Bool := match v with
  | .int a => (match w with | .int b => cmpI op a b | .none => none | .bool _ => none | .str _ => none | .ref _ => none)
  | .none => none | .bool _ => none | .str _ => none | .ref _ => none
noncomputable def onNone (b : Bool) (w : Val) : Option Bool := match w with | .none => some b | .int _ => none | .bool _ => none | .str _ => none | .ref _ => none
noncomputable def cmpV (h : MH) (op : CmpOp) (v w : Val) : Option Bool := match op with
  | .Eq => eqV 8 h v w
  | .NotEq => (eqV 8 h v w).map (!·)
  | .Is => onNone (isNone v) w
  | .IsNot => onNone (!isNone v) w
  | .In => inV h v w
  | .NotIn => (inV h v w).map (!·)
  | .Lt => cmpII .Lt v w
  | .LtE => cmpII .LtE v w
  | .Gt => cmpII .Gt v w
  | .GtE => cmpII .GtE v w

noncomputable def mulOk (a b : Int) : Bool := decide (a.natAbs < 9223372036854775808) || decide (b.natAbs < 9223372036854775808)

noncomputable def newObj (o : MObj) (h : MH) : Res Val := .ok (.ref h.length) (h ++ [o])
noncomputable def newList (xs : List Val) (h : MH) : Res Val := if xs.length ≤ lim then newObj (.list xs) h else .stuck

noncomputable def addRR (h : MH) (i j : Nat) : Res Val :=
  match h[i]?, h[j]? with
  | some (.list xs), some (.list ys) => newList (xs ++ ys) h
  | _, _ => .stuck
noncomputable def mulRI (h : MH) (i : Nat) (n : Int) : Res Val :=
  match h[i]? with
  | some (.list xs) => if n ≤ lim ∧ -lim ≤ n then newList (List.replicate n.toNat xs).flatten h else .stuck
  | _ => .stuck

noncomputable def binI (h : MH) (op : Operator) (a b : Int) : Res Val := match op with
  | .Add => .ok (.int (a + b)) h
  | .Sub => .ok (.int (a - b)) h
  | .Mult => if mulOk a b then .ok (.int (a * b)) h else .stuck
  | .FloorDiv => if 0 < b ∧ b < 1073741824 then .ok (.int (a / b)) h else .stuck
  | .Mod => if 0 < b then .ok (.int (a % b)) h else .stuck
  | _ => .stuck
noncomputable def binV (h : MH) (op : Operator) (v w : Val) : Res Val := match v with
  | .int a => (match w with | .int b => binI h op a b | .none => .stuck | .bool _ => .stuck | .str _ => .stuck | .ref _ => .stuck)
  | .str a => (match w with
    | .str b => (match op with | .Add => if a.length + b.length ≤ lim then .ok (.str (a ++ b)) h else .stuck | _ => .stuck)
    | .none => .stuck | .bool _ => .stuck | .int _ => .stuck | .ref _ => .stuck)
  | .ref i => (match w with
    | .ref j => (match op with | .Add => addRR h i j | _ => .stuck)
    | .int n => (match op with | .Mult => mulRI h i n | _ => .stuck)
    | .none => .stuck | .bool _ => .stuck | .str _ => .stuck)
  | .none => .stuck
  | .bool _ => .stuck

noncomputable def unV (h : MH) : UnaryOp → Val → Res Val
  | .Not, v => match truthyV h v with | some b => .ok (.bool (!b)) h | none => .stuck
  | .USub, .int a => .ok (.int (-a)) h
  | _, _ => .stuck

noncomputable def isInstV (h : MH) (t : Ty) (v : Val) : Option Bool := match v with
  | .ref i => (seqOf h i).map fun p => match t with | .list => p.1 | .tuple => !p.1 | .int => false | .bool => false | .str => false
  | .none => some false
  | .bool _ => some (match t with | .int => true | .bool => true | .list => false | .tuple => false | .str => false)
  | .int _ => some (match t with | .int => true | .bool => false | .list => false | .tuple => false | .str => false)
  | .str _ => some (match t with | .str => true | .int => false | .bool => false | .list => false | .tuple => false)

noncomputable def intsOf : List Val → Option (List Int)
  | [] => some []
  | .int i :: r => (intsOf r).map (i :: ·)
  | _ :: _ => none
noncomputable def boolsOf : List Val → Option (List Bool)
  | [] => some []
  | .bool i :: r => (boolsOf r).map (i :: ·)
  | _ :: _ => none
noncomputable def strsOf : List Val → Option (List (List Nat))
  | [] => some []
  | .str i :: r => (strsOf r).map (i :: ·)
  | _ :: _ => none

noncomputable def decVal (s : List Nat) : Nat := s.foldl (fun a c => a * 10 + (c - 48)) 0
noncomputable def isNum (s : List Nat) : Bool := !s.isEmpty && s.all (fun c => decide (48 ≤ c) && decide (c ≤ 57)) && decide (s.length ≤ 640)
noncomputable def ofS (h : MH) (s : List Nat) : Res Val := if isNum s then .ok (.int (decVal s)) h else .stuck

noncomputable def biL (h : MH) (v : Val) : Res Val := match v with
  | .str s => .ok (.int s.length) h
  | .ref i => (match seqOf h i with | some (_, xs) => .ok (.int xs.length) h | none => .stuck)
  | .none => .stuck
  | .bool _ => .stuck
  | .int _ => .stuck
noncomputable def biSum (h : MH) (i : Nat) : Res Val := match h[i]? with
  | some (.list xs) => (match intsOf xs with | some ns => .ok (.int ns.sum) h | none => .stuck)
  | _ => .stuck
noncomputable def biAll (h : MH) (i : Nat) : Res Val := match h[i]? with
  | some (.list xs) => (match boolsOf xs with | some bs => .ok (.bool (bs.all id)) h | none => .stuck)
  | _ => .stuck
noncomputable def biList (h : MH) (i : Nat) : Res Val := match h[i]? with
  | some (.list xs) => newList xs h
  | _ => .stuck
noncomputable def onRef (f : Nat → Res Val) (v : Val) : Res Val := match v with | .ref i => f i | .none => .stuck | .bool _ => .stuck | .int _ => .stuck | .str _ => .stuck
noncomputable def onB (h : MH) (v : Val) : Res Val := match v with
  | .bool b => .ok (.int (if b then 1 else 0)) h
  | .str s => ofS h s
  | .none => .stuck | .ref _ => .stuck | .int _ => .stuck
noncomputable def bi1 (h : MH) (b : BI) (v : Val) : Res Val := match b with
  | .len => biL h v
  | .sum => onRef (biSum h) v
  | .all => onRef (biAll h) v
  | .list => onRef (biList h) v
  | .int => onB h v
  | .min => .stuck
  | .max => .stuck
  | .str => .stuck
noncomputable def bi2 (h : MH) (f : Int → Int → Int) (v w : Val) : Res Val := match v, w with
  | .int a, .int b => .ok (.int (f a b)) h
  | _, _ => .stuck
noncomputable def biV (h : MH) (b : BI) (vs : List Val) : Res Val := match vs with
  | [v] => bi1 h b v
  | [v, w] => (match b with
    | .min => bi2 h (fun a b => if b < a then b else a) v w
    | .max => bi2 h (fun a b => if b > a then b else a) v w
    | .len => .stuck | .sum => .stuck | .all => .stuck | .list => .stuck | .int => .stuck | .str => .stuck)
  | _ => .stuck

noncomputable def idxOf (i : Int) (n : Nat) : Option Nat :=
  if 0 ≤ i then (if i < n then some i.toNat else none)
  else if -i ≤ n then some (i + n).toNat else none

noncomputable def headAdd (x : Nat) (ws : List (List Nat)) : List (List Nat) := match ws with | [] => [[x]] | w :: r => (x :: w) :: r
noncomputable def splitBy (c : Nat) : List Nat → List (List Nat)
  | [] => [[]]
  | x :: xs => if x = c then [] :: splitBy c xs else headAdd x (splitBy c xs)
noncomputable def onL (h : MH) (v : Val) (f : Nat → List Val → Res Val) : Res Val := match v with
  | .ref i => (match h[i]? with | some (.list xs) => f i xs | some (.ro _) => .stuck | some (.tup _) => .stuck | some (.inst _) => .stuck | some .aux => .stuck | none => .stuck)
  | .none => .stuck | .bool _ => .stuck | .int _ => .stuck | .str _ => .stuck
noncomputable def onI (v : Val) (f : Int → Res Val) : Res Val := match v with | .int k => f k | .none => .stuck | .bool _ => .stuck | .ref _ => .stuck | .str _ => .stuck
noncomputable def arg0 (vs : List Val) (r : Res Val) : Res Val := match vs with | [] => r | _ :: _ => .stuck
noncomputable def arg1 (vs : List Val) (f : Val → Res Val) : Res Val := match vs with | [] => .stuck | x :: r => (match r with | [] => f x | _ :: _ => .stuck)
noncomputable def arg2 (vs : List Val) (f : Val → Val → Res Val) : Res Val := match vs with | [] => .stuck | x :: r => arg1 r (f x)
noncomputable def meApp (h : MH) (v : Val) (vs : List Val) : Res Val := onL h v fun i xs => arg1 vs fun x => if xs.length < lim then .ok .none (h.set i (.list (xs ++ [x]))) else .stuck
noncomputable def onS (v : Val) (f : List Nat → Res Val) : Res Val := match v with | .str s => f s | .none => .stuck | .bool _ => .stuck | .int _ => .stuck | .ref _ => .stuck
noncomputable def onC (s : List Nat) (f : Nat → Res Val) : Res Val := match s with | [] => .stuck | c :: r => (match r with | [] => f c | _ :: _ => .stuck)
noncomputable def meSplit (h : MH) (v : Val) (vs : List Val) : Res Val := onS v fun s => arg1 vs fun u => onS u fun sep => onC sep fun c => newList ((splitBy c s).map .str) h
noncomputable def meV (h : MH) (m : Me) (v : Val) (vs : List Val) : Res Val := match m with
  | .append => meApp h v vs
  | .split => meSplit h v vs

noncomputable def isListAt (h : MH) (i : Nat) : Bool := match h[i]? with | some (.list _) => true | _ => false
noncomputable def isLV (h : MH) (v : Val) : Bool := match v with | .ref i => isListAt h i | .none => false | .bool _ => false | .int _ => false | .str _ => false
noncomputable def isSV (v : Val) : Bool := match v with | .str _ => true | .none => false | .bool _ => false | .int _ => false | .ref _ => false
noncomputable def meOk (h : MH) (m : Me) (v : Val) : Bool := match m with
  | .append => isLV h v
  | .split => isSV v

noncomputable def subV (h : MH) : Val → Val → Option Val
  | .str s, .int k => (idxOf k s.length).bind fun j => s[j]?.map fun c => .str [c]
  | .ref i, .int k => (seqOf h i).bind fun p => (idxOf k p.2.length).bind fun j => p.2[j]?
  | _, _ => none

noncomputable def cutAt (v : Val) (d : Nat) (n : Nat) : Option Nat :=
  match v with
  | .none => some d
  | .int i => if 0 ≤ i then some (min i.toNat n) else some (i + n).toNat
  | _ => none

noncomputable def sliceS (h : MH) (s : List Nat) (lo hi : Val) : Res Val := match cutAt lo 0 s.length, cutAt hi s.length s.length with
  | some a, some b => .ok (.str ((s.take b).drop a)) h
  | _, _ => .stuck
noncomputable def sliceL (h : MH) (xs : List Val) (lo hi : Val) : Res Val := match cutAt lo 0 xs.length, cutAt hi xs.length xs.length with
  | some a, some b => newList ((xs.take b).drop a) h
  | _, _ => .stuck
noncomputable def sliceV (h : MH) (v lo hi : Val) : Res Val := match v with
  | .ref i => (match h[i]? with | some (.list xs) => sliceL h xs lo hi | some (.ro _) => .stuck | some (.tup _) => .stuck | some (.inst _) => .stuck | some .aux => .stuck | none => .stuck)
  | .str s => sliceS h s lo hi
  | .none => .stuck | .bool _ => .stuck | .int _ => .stuck

noncomputable def srevV (h : MH) : Val → Res Val
  | .ref i => match h[i]? with | some (.list xs) => newList xs.reverse h | _ => .stuck
  | _ => .stuck

noncomputable def asubV (h : MH) : Val → Val → Val → Res Unit
  | .ref i, .int k, v => match h[i]? with
    | some (.list xs) => if 0 ≤ k ∧ k < xs.length then .ok () (h.set i (.list (xs.set k.toNat v))) else .stuck
    | _ => .stuck
  | _, _, _ => .stuck

noncomputable def rangeVals (a : Int) : Nat → List Val
  | 0 => []
  | n + 1 => .int a :: rangeVals (a + 1) n

/-- bind a target: a slot; slots against a tuple -/
noncomputable def bindS : List Nat → List Val → Rho → Option Rho
  | [], vs, ρ => (match vs with | [] => some ρ | _ :: _ => none)
  | i :: is, vs, ρ => (match vs with | [] => none | v :: vs => bindS is vs (ρ.set i (some v)))
noncomputable def tupV (h : MH) (v : Val) : Option (List Val) := match v with
  | .ref i => (match h[i]? with | some (.tup vs) => some vs | some (.list _) => none | some (.ro _) => none | some (.inst _) => none | some .aux => none | none => none)
  | .none => none | .bool _ => none | .int _ => none | .str _ => none
noncomputable def bindTgt (_ : MH) (t : MExpr) (v : Val) (ρ : Rho) : Option Rho := match t with
  | .loc i => some (ρ.set i (some v))
  | _ => none

noncomputable abbrev Src := List Val × (MH → Bool)

noncomputable def zipVals : List Val → List Val → List (Val × Val)
  | x :: xs, y :: ys => (x, y) :: zipVals xs ys
  | _, _ => []

noncomputable def compLoop (f : Val → MH → Res (Option Val)) (ck : MH → Bool) : List Val → MH → Res (List Val)
  | [], h => .ok [] h
  | x :: xs, h => (f x h).bind fun o h1 => if ck h1 then (compLoop f ck xs h1).bind fun vs h2 => .ok (match o with | some v => v :: vs | none => vs) h2 else .stuck

noncomputable def forLoop (f : Val → Rho → MH → Res (MFlow × Rho)) (ck : MH → Bool) : List Val → Rho → MH → Res (MFlow × Rho)
  | [], ρ, h => .ok (.next, ρ) h
  | x :: xs, ρ, h => (f x ρ h).bind fun p h1 => match p.1 with
    | .next => if ck h1 then forLoop f ck xs p.2 h1 else .stuck
    | .ret v => .ok (.ret v, p.2) h1

noncomputable def whileLoop (t : Rho → MH → Res Bool) (f : Rho → MH → Res (MFlow × Rho)) : Nat → Rho → MH → Res (MFlow × Rho)
  | 0, _, _ => .stuck
  | n + 1, ρ, h => (t ρ h).bind fun b h1 => if b then (f ρ h1).bind fun p h2 => match p.1 with
      | .next => whileLoop t f n p.2 h2
      | .ret v => .ok (.ret v, p.2) h2
    else .ok (.next, ρ) h1

noncomputable def srcOf (h : MH) (v : Val) : Option Src := match v with
  | .ref i => (match h[i]? with
    | some (.list xs) => some (xs, fun h' => decide (h'[i]? = some (.list xs)))
    | some (.ro xs) => some (xs, fun h' => decide (h'[i]? = some (.ro xs)))
    | some (.tup _) => none | some (.inst _) => none | some .aux => none | none => none)
  | .str s => if s.all (fun c => decide (c < 128)) then some (s.map fun c => .str [c], fun _ => true) else none
  | .none => none | .bool _ => none | .int _ => none

noncomputable def rangeOk (a b : Int) : Bool := decide (-lim ≤ a) && decide (a ≤ lim) && decide (-lim ≤ b) && decide (b ≤ lim) && decide (b - a ≤ lim)

structure Den where
  E : Rho → MH → Res Val
  T : Rho → MH → Res Bool
  Es : Rho → MH → Res (List Val)
  I : Rho → MH → Res Src

noncomputable def tOf (E : Rho → MH → Res Val) (ρ : Rho) (h : MH) : Res Bool := (E ρ h).bind fun v h => Res.opt (truthyV h v) h
noncomputable def denE (E : Rho → MH → Res Val) : Den := ⟨E, tOf E, fun _ _ => .stuck, fun _ _ => .stuck⟩
noncomputable def denB (E : Rho → MH → Res Val) (T : Rho → MH → Res Bool) : Den := ⟨E, T, fun _ _ => .stuck, fun _ _ => .stuck⟩
noncomputable def denS (Es : Rho → MH → Res (List Val)) : Den := ⟨fun _ _ => .stuck, fun _ _ => .stuck, Es, fun _ _ => .stuck⟩
noncomputable def denI (I : Rho → MH → Res Src) : Den := ⟨fun _ _ => .stuck, fun _ _ => .stuck, fun _ _ => .stuck, I⟩

noncomputable def optOf : List Val → Option Val
  | [] => some .none
  | [v] => some v
  | _ => none

noncomputable def irangeV (v : Val) (h : MH) : Res Src :=
  match v with
  | .int n => if rangeOk 0 n then .ok (rangeVals 0 n.toNat, fun _ => true) h else .stuck
  | _ => .stuck
noncomputable def irange2V (v w : Val) (h : MH) : Res Src :=
  match v, w with
  | .int n, .int m => if rangeOk n m then .ok (rangeVals n (m - n).toNat, fun _ => true) h else .stuck
  | _, _ => .stuck
noncomputable def lrangeV (v : Val) (h : MH) : Res Val :=
  match v with
  | .int n => if rangeOk 0 n then newList (rangeVals 0 n.toNat) h else .stuck
  | _ => .stuck
noncomputable def onInst {α : Type} (h : MH) (v : Val) (f : Nat → List (Option Val) → Res α) : Res α := match v with
  | .ref i => (match h[i]? with | some (.inst fs) => f i fs | some (.list _) => .stuck | some (.ro _) => .stuck | some (.tup _) => .stuck | some .aux => .stuck | none => .stuck)
  | .none => .stuck | .bool _ => .stuck | .int _ => .stuck | .str _ => .stuck
noncomputable def fieldV (h : MH) (o : Option (Option Val)) : Res Val := match o with | some (some w) => .ok w h | some none => .stuck | none => .stuck
noncomputable def attrV (k : Nat) (v : Val) (h : MH) : Res Val := onInst h v fun _ fs => fieldV h fs[k]?
noncomputable def isIV (h : MH) (v : Val) : Bool := match v with
  | .ref i => (match h[i]? with | some (.inst _) => true | some (.list _) => false | some (.ro _) => false | some (.tup _) => false | some .aux => false | none => false)
  | .none => false | .bool _ => false | .int _ => false | .str _ => false
noncomputable def newTV (h : MH) (r : Res Val) : Res Val := r.bind fun v h' => match v with | .none => .ok (.ref h.length) h' | .bool _ => .stuck | .int _ => .stuck | .str _ => .stuck | .ref _ => .stuck
noncomputable def listsOf (h : MH) (v : Val) : Option (List Val) := match v with
  | .ref i => (match h[i]? with | some (.list xs) => some xs | some (.ro _) => none | some (.tup _) => none | some (.inst _) => none | some .aux => none | none => none)
  | .none => none | .bool _ => none | .int _ => none | .str _ => none
/-- a comprehension over zip of two empty lists -/
noncomputable def compzL (h : MH) (v w : Val) : Res (List Val) := match listsOf h v with
  | some xs => (match listsOf h w with | some ys => if xs.isEmpty && ys.isEmpty then .ok [] h else .stuck | none => .stuck)
  | none => .stuck
noncomputable def locV (i : Nat) (ρ : Rho) (h : MH) : Res Val := match ρ[i]? with | some (some v) => .ok v h | _ => .stuck
noncomputable def compStep (tgt : MExpr) (cond : Rho → MH → Res Bool) (elt : Rho → MH → Res Val) (ρ : Rho) (x : Val) (h : MH) : Res (Option Val) :=
  match bindTgt h tgt x ρ with
  | some ρ' => (cond ρ' h).bind fun b h => if b then (elt ρ' h).bind fun v h => .ok (some v) h else .ok none h
  | none => .stuck

variable (C : Cf)

noncomputable def sem : MExpr → Den
  | .const v => denE fun _ h => .ok v h
  | .gconst v => denE fun _ h => .ok v h
  | .loc i => denE (locV i)
  | .bin op a b => denE fun ρ h => ((sem a).E ρ h).bind fun v h => ((sem b).E ρ h).bind fun w h => binV h op v w
  | .un op a => denB (fun ρ h => ((sem a).E ρ h).bind fun v h => unV h op v) (fun ρ h => match op with
      | .Not => ((sem a).T ρ h).bind fun b h => .ok (!b) h
      | op => (((sem a).E ρ h).bind fun v h => unV h op v).bind fun v h => Res.opt (truthyV h v) h)
  | .and a b => denB (fun ρ h => ((sem a).E ρ h).bind fun v h => (Res.opt (truthyV h v) h).bind fun t h => if t then (sem b).E ρ h else .ok v h)
      (fun ρ h => ((sem a).T ρ h).bind fun t h => if t then (sem b).T ρ h else .ok false h)
  | .or a b => denB (fun ρ h => ((sem a).E ρ h).bind fun v h => (Res.opt (truthyV h v) h).bind fun t h => if t then .ok v h else (sem b).E ρ h)
      (fun ρ h => ((sem a).T ρ h).bind fun t h => if t then .ok true h else (sem b).T ρ h)
  | .cmp op a b => denB (fun ρ h => ((sem a).E ρ h).bind fun v h => ((sem b).E ρ h).bind fun w h => (Res.opt (cmpV h op v w) h).bind fun t h => .ok (.bool t) h)
      (fun ρ h => ((sem a).E ρ h).bind fun v h => ((sem b).E ρ h).bind fun w h => Res.opt (cmpV h op v w) h)
  | .cmp2 o₁ o₂ a b c => denB (fun ρ h => ((sem a).E ρ h).bind fun v h => ((sem b).E ρ h).bind fun w h => (Res.opt (cmpV h o₁ v w) h).bind fun t h =>
        if t then ((sem c).E ρ h).bind fun x h => (Res.opt (cmpV h o₂ w x) h).bind fun t h => .ok (.bool t) h else .ok (.bool false) h)
      (fun ρ h => ((sem a).E ρ h).bind fun v h => ((sem b).E ρ h).bind fun w h => (Res.opt (cmpV h o₁ v w) h).bind fun t h =>
        if t then ((sem c).E ρ h).bind fun x h => Res.opt (cmpV h o₂ w x) h else .ok false h)
  | .isinst t a => denE fun ρ h => ((sem a).E ρ h).bind fun v h => (Res.opt (isInstV h t v) h).bind fun b h => .ok (.bool b) h
  | .call f args => denE fun ρ h => ((sem args).Es ρ h).bind fun vs h => C f vs h
  | .bi b args => denE fun ρ h => ((sem args).Es ρ h).bind fun vs h => biV h b vs
  | .lrange a => denE fun ρ h => ((sem a).E ρ h).bind lrangeV
  | .meth m o args => denE fun ρ h => ((sem o).E ρ h).bind fun v h => if meOk h m v then ((sem args).Es ρ h).bind fun vs h => meV h m v vs else .stuck
  | .lst es => denE fun ρ h => ((sem es).Es ρ h).bind newList
  | .tup es => denE fun ρ h => ((sem es).Es ρ h).bind fun vs h => if vs.length ≤ lim then newObj (.tup vs) h else .stuck
  | .sub o i => denE fun ρ h => ((sem o).E ρ h).bind fun v h => ((sem i).E ρ h).bind fun w h => Res.opt (subV h v w) h
  | .slice o lo hi => denE fun ρ h => ((sem o).E ρ h).bind fun v h => (((sem lo).Es ρ h).bind fun a h => Res.opt (optOf a) h).bind fun a h => (((sem hi).Es ρ h).bind fun b h => Res.opt (optOf b) h).bind fun b h => sliceV h v a b
  | .srev o => denE fun ρ h => ((sem o).E ρ h).bind fun v h => srevV h v
  | .comp elt tgt it cond => denE fun ρ h => ((sem it).I ρ h).bind fun s h =>
      (compLoop (compStep tgt (sem cond).T (sem elt).E ρ) s.2 s.1 h).bind newList
  | .attr o k => denE fun ρ h => ((sem o).E ρ h).bind (attrV k)
  | .mcall f o args => denE fun ρ h => ((sem o).E ρ h).bind fun v h => if isIV h v then ((sem args).Es ρ h).bind fun vs h => C f (v :: vs) h else .stuck
  | .newT f => denE fun _ h => newTV h (C f [.ref h.length] (h ++ [.inst [none, none, none], .aux]))
  | .compz a b => denE fun ρ h => (((sem a).E ρ h).bind fun v h => ((sem b).E ρ h).bind fun w h => compzL h v w).bind newList
  | .nil => denS fun _ h => .ok [] h
  | .cons a b => denS fun ρ h => ((sem a).E ρ h).bind fun v h => ((sem b).Es ρ h).bind fun vs h => .ok (v :: vs) h
  | .irange a => denI fun ρ h => ((sem a).E ρ h).bind irangeV
  | .irange2 a b => denI fun ρ h => ((sem a).E ρ h).bind fun v h => ((sem b).E ρ h).bind fun w h => irange2V v w h
  | .iobj a => denI fun ρ h => ((sem a).E ρ h).bind fun v h => Res.opt (srcOf h v) h

noncomputable abbrev evalE (e : MExpr) := (sem C e).E
noncomputable abbrev evalT (e : MExpr) := (sem C e).T
noncomputable abbrev evalEs (e : MExpr) := (sem C e).Es
noncomputable abbrev evalI (e : MExpr) := (sem C e).I

noncomputable def aattrV (k : Nat) (v w : Val) (h : MH) : Res Unit := onInst h v fun i fs => if k < fs.length ∧ k < 3 then .ok () (h.set i (.inst (fs.set k (some w)))) else .stuck

noncomputable def forStep (tgt : MExpr) (b : Rho → MH → Res (MFlow × Rho)) (x : Val) (ρ : Rho) (h : MH) : Res (MFlow × Rho) :=
  match bindTgt h tgt x ρ with
  | some ρ' => b ρ' h
  | none => .stuck

noncomputable def caught (c : Nat) : List (Nat × Bool × Val) → Option Val
  | [] => none
  | h :: r => if h.1 = c ∨ h.1 = 0 then some h.2.2 else caught c r
noncomputable def tryV (hs : List (Nat × Bool × Val)) (ρ : Rho) (r : Res (MFlow × Rho)) : Res (MFlow × Rho) := match r with
  | .ok p h => .ok p h
  | .exc c h => (match caught c hs with | some v => .ok (.ret v, ρ) h | none => .stuck)
  | .stuck => .stuck

noncomputable def kindsL (c : Nat) : List Val := [1, 2, 3, 4, 5, 6, 7, 8].map fun k => .bool (decide (k = c ∨ k = 0))
noncomputable def kComp (k w : Nat) : MExpr := .comp (.cmp .Eq (.loc k) (.loc w)) (.loc k) (.irange (.const (.int 8))) (.const (.bool true))
noncomputable def tryK (k w : Nat) (ρ : Rho) (r : Res (MFlow × Rho)) : Res (MFlow × Rho) := match r with
  | .ok p h => .ok p h
  | .exc c h => (newList (kindsL c) h).bind fun v h => (evalE C (kComp k w) ρ h).bind fun u h => (Res.opt (eqV 8 h v u) h).bind fun b h => .ok (.ret (.bool b), ρ) h
  | .stuck => .stuck
noncomputable def exec (W : Nat) : MStmt → Rho → MH → Res (MFlow × Rho)
  | .nil, ρ, h => .ok (.next, ρ) h
  | .cons s r, ρ, h => (exec W s ρ h).bind fun p h => match p.1 with
      | .next => exec W r p.2 h
      | .ret v => .ok (.ret v, p.2) h
  | .assign i e, ρ, h => (evalE C e ρ h).bind fun v h => .ok (.next, ρ.set i (some v)) h
  | .asub o i e, ρ, h => (evalE C e ρ h).bind fun v h => (evalE C o ρ h).bind fun ov h => (evalE C i ρ h).bind fun iv h =>
      (asubV h ov iv v).bind fun _ h => .ok (.next, ρ) h
  | .aattr o k e, ρ, h => (evalE C e ρ h).bind fun v h => (evalE C o ρ h).bind fun ov h => (aattrV k ov v h).bind fun _ h => .ok (.next, ρ) h
  | .atup ts e, ρ, h => (evalE C e ρ h).bind fun v h => (Res.opt (tupV h v) h).bind fun vs h => (Res.opt (bindS ts vs ρ) h).bind fun ρ' h => .ok (.next, ρ') h
  | .expr e, ρ, h => (evalE C e ρ h).bind fun _ h => .ok (.next, ρ) h
  | .ifs c t e, ρ, h => (evalT C c ρ h).bind fun b h => if b then exec W t ρ h else exec W e ρ h
  | .fors tgt it b, ρ, h => (evalI C it ρ h).bind fun s h => forLoop (forStep tgt (exec W b)) s.2 s.1 ρ h
  | .whiles c b, ρ, h => whileLoop (evalT C c) (exec W b) W ρ h
  | .ret e, ρ, h => (evalE C e ρ h).bind fun v h => .ok (.ret v, ρ) h
  | .raise c, _, h => .exc c h
  | .tryx b hs, ρ, h => tryV hs ρ (exec W b ρ h)
  | .tryk b k w, ρ, h => tryK C k w ρ (exec W b ρ h)
  | .wild, _, _ => .stuck

end Mine

namespace Mine

noncomputable def callN (F : Nat → Option MFun) (W : Nat) : Nat → Cf
  | 0, _, _, _ => .stuck
  | n + 1, f, vs, h => match F f with
    | some d => if vs.length = d.np then
        (exec (callN F W n) W d.body (vs.map some ++ List.replicate (d.ns - d.np) none) h).bind fun p h => match p.1 with
          | .ret v => .ok v h
          | .next => .ok .none h
        else .stuck
    | none => .stuck

end Mine


-- part MiniRel
set_option maxRecDepth 4000
set_option linter.unusedVariables false
namespace Mine
open PySem

noncomputable def VRel (μ : List Addr) : Val → Value → Prop
  | .none, v => v = .none
  | .bool b, v => v = .bool b
  | .int i, v => ∃ t, v = .int i t
  | .str s, v => s.length ≤ lim ∧ ∃ t, v = .str ⟨s.toArray⟩ t
  | .ref i, v => ∃ a, μ[i]? = some a ∧ v = .ref a

noncomputable def VsRel (μ : List Addr) : List Val → List Value → Prop
  | [], ys => ys = []
  | v :: vs, ys => ∃ w ws, ys = w :: ws ∧ VRel μ v w ∧ VsRel μ vs ws

theorem getElem?_prefix {α : Type} {l l' : List α} (p : l <+: l') {i : Nat} {a : α} (h : l[i]? = some a) : l'[i]? = some a := by
  obtain ⟨t, rfl⟩ := p
  rw [List.getElem?_append_left]; exact h
  exact (List.getElem?_eq_some_iff.mp h).1

theorem VRel.mono {μ μ' : List Addr} (p : μ <+: μ') {v : Val} {w : Value} (h : VRel μ v w) : VRel μ' v w := by
  cases v with
  | ref i => obtain ⟨a, e, r⟩ := h; exact ⟨a, getElem?_prefix p e, r⟩
  | _ => exact h
theorem VsRel.mono {μ μ' : List Addr} (p : μ <+: μ') : ∀ {vs : List Val} {ws : List Value}, VsRel μ vs ws → VsRel μ' vs ws
  | [], _, h => h
  | _ :: _, _, ⟨w, ws, e, r, rs⟩ => ⟨w, ws, e, r.mono p, rs.mono p⟩
theorem VsRel.length {μ : List Addr} : ∀ {vs : List Val} {ws : List Value}, VsRel μ vs ws → ws.length = vs.length
  | [], _, h => by rw [show _ = [] from h]; rfl
  | _ :: _, _, ⟨w, ws, e, _, rs⟩ => by rw [e, List.length_cons, List.length_cons, rs.length]
theorem VsRel.nil {μ : List Addr} : VsRel μ [] [] := rfl
theorem VsRel.cons {μ : List Addr} {v w vs ws} (h : VRel μ v w) (hs : VsRel μ vs ws) : VsRel μ (v :: vs) (w :: ws) := ⟨w, ws, rfl, h, hs⟩
theorem VsRel.get {μ : List Addr} : ∀ {vs : List Val} {ws : List Value} {i : Nat} {v : Val}, VsRel μ vs ws → vs[i]? = some v → ∃ w, ws[i]? = some w ∧ VRel μ v w
  | [], _, _, _, _, e => by simp at e
  | _ :: _, _, 0, _, ⟨w, ws, e, r, _⟩, q => by simp at q; subst q; exact ⟨w, by rw [e]; rfl, r⟩
  | _ :: _, _, i + 1, _, ⟨w, ws, e, _, rs⟩, q => by
    simp at q; obtain ⟨x, h1, h2⟩ := rs.get q; exact ⟨x, by rw [e]; simpa using h1, h2⟩
theorem VsRel.append {μ : List Addr} : ∀ {vs us : List Val} {ws xs : List Value}, VsRel μ vs ws → VsRel μ us xs → VsRel μ (vs ++ us) (ws ++ xs)
  | [], _, _, _, h, k => by rw [show _ = [] from h]; exact k
  | _ :: _, _, _, _, ⟨w, ws, e, r, rs⟩, k => by rw [e]; exact ⟨w, _, rfl, r, rs.append k⟩
theorem VsRel.take {μ : List Addr} : ∀ {vs : List Val} {ws : List Value} (n : Nat), VsRel μ vs ws → VsRel μ (vs.take n) (ws.take n)
  | [], _, n, h => by rw [show _ = [] from h]; simp; rfl
  | _ :: _, _, 0, _ => by simp; rfl
  | _ :: _, _, n + 1, ⟨w, ws, e, r, rs⟩ => by rw [e]; exact ⟨w, _, rfl, r, rs.take n⟩
theorem VsRel.drop {μ : List Addr} : ∀ {vs : List Val} {ws : List Value} (n : Nat), VsRel μ vs ws → VsRel μ (vs.drop n) (ws.drop n)
  | [], _, n, h => by rw [show _ = [] from h]; simp; rfl
  | _ :: _, _, 0, h => h
  | _ :: _, _, n + 1, ⟨w, ws, e, r, rs⟩ => by rw [e]; exact rs.drop n
theorem VsRel.set {μ : List Addr} : ∀ {vs : List Val} {ws : List Value} (n : Nat) {v w}, VsRel μ vs ws → VRel μ v w → VsRel μ (vs.set n v) (ws.set n w)
  | [], _, n, _, _, h, _ => by rw [show _ = [] from h]; simp; rfl
  | _ :: _, _, 0, _, _, ⟨w, ws, e, _, rs⟩, k => by rw [e]; exact ⟨_, _, rfl, k, rs⟩
  | _ :: _, _, n + 1, _, _, ⟨w, ws, e, r, rs⟩, k => by rw [e]; exact ⟨_, _, rfl, r, rs.set n k⟩
theorem VsRel.reverse {μ : List Addr} : ∀ {vs : List Val} {ws : List Value}, VsRel μ vs ws → VsRel μ vs.reverse ws.reverse
  | [], _, h => by rw [show _ = [] from h]; exact .nil
  | _ :: _, _, ⟨w, ws, e, r, rs⟩ => by rw [e, List.reverse_cons, List.reverse_cons]; exact rs.reverse.append ⟨w, [], rfl, r, rfl⟩
theorem VsRel.flat {μ : List Addr} {vs : List Val} {ws : List Value} (h : VsRel μ vs ws) : ∀ n, VsRel μ (List.replicate n vs).flatten (List.replicate n ws).flatten
  | 0 => rfl
  | n + 1 => by rw [List.replicate_succ, List.replicate_succ, List.flatten_cons, List.flatten_cons]; exact h.append (h.flat n)

noncomputable abbrev listObj (ys : List Value) (n : Nat) : Obj := { cls := .type "list", dict := none, data := .seq ys.toArray n, slots := #[] }
noncomputable abbrev tupObj (ys : List Value) (n : Nat) : Obj := { cls := .type "tuple", dict := none, data := .seq ys.toArray n, slots := #[] }

noncomputable def ORel (μ : List Addr) (h : Heap) (a : Addr) : MObj → Prop
  | .list xs => xs.length ≤ lim ∧ ∃ ys n, h.get? a = some (listObj ys n) ∧ VsRel μ xs ys
  | .ro xs => xs.length ≤ lim ∧ ∃ ys n, h.get? a = some (listObj ys n) ∧ VsRel μ xs ys
  | .tup xs => xs.length ≤ lim ∧ ∃ ys n, h.get? a = some (tupObj ys n) ∧ VsRel μ xs ys
  | .inst _ => ∃ o, h.get? a = some o
  | .aux => ∃ o, h.get? a = some o

noncomputable def MObj.isRo : MObj → Bool
  | .ro _ => true
  | _ => false

noncomputable def MObj.isInst : MObj → Bool
  | .inst _ => true
  | _ => false
noncomputable def MObj.isAux : MObj → Bool
  | .aux => true
  | _ => false
noncomputable def attrName : Nat → Str
  | 0 => "kept" | 1 => "goods" | _ => "past"
/-- the class Table -/
noncomputable def tabK (B : Heap) : Addr := match B.nsMap mainGlobals "Table" with | some (.ref a) => a | _ => 0
/-- an instance of ours, its dict at dx -/
noncomputable def InstR (B : Heap) (μ : List Addr) (h : Heap) (a dx : Addr) (fs : List (Option Val)) : Prop :=
  ∃ o mA, h.get? a = some o ∧ o.cls = .ref (tabK B) ∧ o.dict = some dx ∧ (∀ c, o.data ≠ .cls c) ∧ dx ≠ a ∧ h.Ns1 dx mA ∧
    (∀ (k : Nat) (v : Val), k < 3 → fs[k]? = some (some v) → ∃ w, mA (attrName k) = some w ∧ VRel μ v w) ∧ (∀ y, mA y ≠ none → y ∈ [attrName 0, attrName 1, attrName 2])
theorem InstR.mono {B : Heap} {μ μ' : List Addr} {h h' : Heap} {a dx : Addr} {fs : List (Option Val)} (p : μ <+: μ') (k : ∀ ob, h.get? a = some ob → h'.get? a = some ob) (kd : ∀ ob, h.get? dx = some ob → h'.get? dx = some ob) (r : InstR B μ h a dx fs) : InstR B μ' h' a dx fs := by
  obtain ⟨o, mA, h1, h2, h3, h4, h5, h6, h7, h8⟩ := r
  exact ⟨o, mA, k _ h1, h2, h3, h4, h5, h6.at kd, fun j v hj e => let ⟨w, e1, e2⟩ := h7 j v hj e; ⟨w, e1, e2.mono p⟩, h8⟩

structure HRel (B : Heap) (μ : List Addr) (σ : MH) (h : Heap) : Prop where
  len : μ.length = σ.length
  inj : ∀ (i j : Nat) (a : Addr), μ[i]? = some a → μ[j]? = some a → i = j
  base : ∀ b o, B.get? b = some o → h.get? b = some o
  obj : ∀ (i : Nat) (a : Addr) (o : MObj), μ[i]? = some a → σ[i]? = some o → ORel μ h a o
  new : ∀ (i : Nat) (a : Addr) (o : MObj), μ[i]? = some a → σ[i]? = some o → o.isRo = false → B.get? a = none
  ins : ∀ (i : Nat) (a : Addr) (fs : List (Option Val)), μ[i]? = some a → σ[i]? = some (.inst fs) → σ[i + 1]? = some .aux ∧ ∃ dx, μ[i + 1]? = some dx ∧ InstR B μ h a dx fs

/-- an object, a dict's slots aside -/
noncomputable def nrm (o : Obj) : Obj := match o.data with
  | .dict _ _ => { o with slots := #[] }
  | _ => o
noncomputable def look (h : Heap) (b : Addr) : Option Obj := (h.get? b).map nrm
theorem nrm_data (o : Obj) : (nrm o).data = o.data := by
  unfold nrm; split <;> rfl
theorem nrm_of {o : Obj} (h : ∀ es ep, o.data ≠ .dict es ep) : nrm o = o := by
  unfold nrm; split
  · rename_i es ep e; exact absurd e (h es ep)
  · rfl
theorem look_of {h : Heap} {b : Addr} {o : Obj} (e : h.get? b = some o) : look h b = some (nrm o) := by unfold look; rw [e]; rfl
theorem look_elim {h : Heap} {b : Addr} {o : Obj} (e : look h b = some o) : ∃ o', h.get? b = some o' ∧ nrm o' = o := Option.map_eq_some_iff.mp e
theorem look_keep {h h' : Heap} {b : Addr} (k : ∀ o, h.get? b = some o → h'.get? b = some o) {o : Obj} (e : look h b = some o) : look h' b = some o := by
  obtain ⟨o', e1, rfl⟩ := look_elim e
  exact look_of (k o' e1)
theorem get_of_look {h : Heap} {b : Addr} {o : Obj} (e : look h b = some o) (n : ∀ es ep, o.data ≠ .dict es ep) : h.get? b = some o := by
  obtain ⟨o', e1, rfl⟩ := look_elim e
  rw [nrm_data] at n
  rw [e1, nrm_of n]

structure Step (μ μ' : List Addr) (h h' : Heap) : Prop where
  pre : μ <+: μ'
  keep : ∀ b o, b ∉ μ → look h b = some o → look h' b = some o
  fresh : ∀ b, b ∈ μ' → b ∉ μ → h.get? b = none

theorem Step.refl (μ : List Addr) (h : Heap) : Step μ μ h h := ⟨List.prefix_refl _, fun _ _ _ e => e, fun _ x y => absurd x y⟩
theorem Step.notMem {μ μ' : List Addr} {h h' : Heap} (s : Step μ μ' h h') {b : Addr} {o : Obj} (n : b ∉ μ) (e : h.get? b = some o) : b ∉ μ' := fun q => by
  rw [s.fresh b q n] at e; cases e
theorem Step.notMemL {μ μ' : List Addr} {h h' : Heap} (s : Step μ μ' h h') {b : Addr} {o : Obj} (n : b ∉ μ) (e : look h b = some o) : b ∉ μ' := by
  obtain ⟨o', e', _⟩ := look_elim e
  exact s.notMem n e'
theorem Step.get {μ μ' : List Addr} {h h' : Heap} (s : Step μ μ' h h') {b : Addr} {o : Obj} (n : b ∉ μ) (e : h.get? b = some o) (nd : ∀ es ep, o.data ≠ .dict es ep) : h'.get? b = some o := by
  have := s.keep b _ n (look_of e)
  rw [nrm_of nd] at this
  exact get_of_look this nd
theorem Step.trans {μ μ' μ'' : List Addr} {h h' h'' : Heap} (s : Step μ μ' h h') (t : Step μ' μ'' h' h'') : Step μ μ'' h h'' :=
  ⟨s.pre.trans t.pre, fun b o n e => t.keep b o (s.notMemL n e) (s.keep b o n e), fun b x y => by
    by_cases q : b ∈ μ'
    · exact s.fresh b q y
    · cases e : h.get? b with
      | none => rfl
      | some o =>
        have := t.fresh b x q
        obtain ⟨o', e', _⟩ := look_elim (s.keep b _ y (look_of e))
        rw [e'] at this; cases this⟩
/-- objects are only added -/
theorem Step.grow {μ : List Addr} {h h' : Heap} (k : ∀ b o, h.get? b = some o → h'.get? b = some o) : Step μ μ h h' :=
  ⟨List.prefix_refl _, fun b o _ e => look_keep (k b) e, fun _ x y => absurd x y⟩

theorem ORel.mono {μ μ' : List Addr} {h h' : Heap} {a : Addr} {o : MObj} (p : μ <+: μ') (k : ∀ ob, h.get? a = some ob → h'.get? a = some ob) (r : ORel μ h a o) : ORel μ' h' a o := by
  cases o with
  | list xs => obtain ⟨l, ys, n, e, v⟩ := r; exact ⟨l, ys, n, k _ e, v.mono p⟩
  | ro xs => obtain ⟨l, ys, n, e, v⟩ := r; exact ⟨l, ys, n, k _ e, v.mono p⟩
  | tup xs => obtain ⟨l, ys, n, e, v⟩ := r; exact ⟨l, ys, n, k _ e, v.mono p⟩
  | inst _ => obtain ⟨ob, e⟩ := r; exact ⟨ob, k _ e⟩
  | aux => obtain ⟨ob, e⟩ := r; exact ⟨ob, k _ e⟩

/-- the heap grows, nothing of ours changes -/
theorem HRel.grow {B : Heap} {μ : List Addr} {σ : MH} {h h' : Heap} (r : HRel B μ σ h) (k : ∀ b o, h.get? b = some o → h'.get? b = some o) : HRel B μ σ h' :=
  ⟨r.len, r.inj, fun b o e => k b o (r.base b o e), fun i a o e q => (r.obj i a o e q).mono (List.prefix_refl _) (k a), r.new, fun i a fs e q => by
    obtain ⟨h1, dx, h2, h3⟩ := r.ins i a fs e q
    exact ⟨h1, dx, h2, h3.mono (List.prefix_refl _) (k a) (k dx)⟩⟩

/-- a new object of ours -/
theorem HRel.alloc {B : Heap} {μ : List Addr} {σ : MH} {h h' : Heap} (r : HRel B μ σ h) {a : Addr} {o : MObj} (k : ∀ b o, h.get? b = some o → h'.get? b = some o)
    (f : a ∉ μ) (b : B.get? a = none) (ho : ORel (μ ++ [a]) h' a o) (no : o.isInst = false := by rfl) : HRel B (μ ++ [a]) (σ ++ [o]) h' := by
  have len' := r.len
  have old : ∀ {i : Nat} {x : Addr}, (μ ++ [a])[i]? = some x → (μ[i]? = some x ∧ i < μ.length) ∨ (x = a ∧ i = μ.length) := fun {i x} e => by
    rcases Nat.lt_trichotomy i μ.length with q | q | q
    · rw [List.getElem?_append_left q] at e; exact .inl ⟨e, q⟩
    · subst q; rw [List.getElem?_append_right (Nat.le_refl _), Nat.sub_self] at e; cases e; exact .inr ⟨rfl, rfl⟩
    · rw [List.getElem?_eq_none (by simp; omega)] at e; cases e
  have mem : ∀ {i : Nat} {x : Addr}, μ[i]? = some x → x ∈ μ := fun e => List.mem_of_getElem? e
  refine ⟨by simp [len'], fun i j x e q => ?_, fun b o e => k b o (r.base b o e), fun i x o' e q => ?_, fun i x o' e q n => ?_, fun i x fs e q => ?_⟩
  · rcases old e with ⟨e, _⟩ | ⟨rfl, e⟩ <;> rcases old q with ⟨q, _⟩ | ⟨q', q⟩
    · exact r.inj i j x e q
    · exact absurd (mem e) (q' ▸ f)
    · exact absurd (mem q) f
    · omega
  · rcases old e with ⟨e, l⟩ | ⟨rfl, z⟩
    · rw [List.getElem?_append_left (by omega)] at q
      exact (r.obj i x o' e q).mono (List.prefix_append _ _) (k x)
    · subst z; rw [len', List.getElem?_append_right (Nat.le_refl _), Nat.sub_self] at q; cases q; exact ho
  · rcases old e with ⟨e, l⟩ | ⟨rfl, e⟩
    · rw [List.getElem?_append_left (by omega)] at q
      exact r.new i x o' e q n
    · exact b
  · rcases old e with ⟨e, l⟩ | ⟨rfl, z⟩
    · rw [List.getElem?_append_left (by omega)] at q
      obtain ⟨h1, dx, h2, h3⟩ := r.ins i x fs e q
      exact ⟨by rw [List.getElem?_append_left (List.getElem?_eq_some_iff.mp h1).1]; exact h1, dx, getElem?_prefix (List.prefix_append _ _) h2, h3.mono (List.prefix_append _ _) (k x) (k dx)⟩
    · subst z; rw [len', List.getElem?_append_right (Nat.le_refl _), Nat.sub_self] at q; cases q; cases no

/-- an object of ours changes -/
theorem HRel.upd {B : Heap} {μ : List Addr} {σ : MH} {h h' : Heap} (r : HRel B μ σ h) {i : Nat} {a : Addr} {o o' : MObj} (e : μ[i]? = some a) (q : σ[i]? = some o) (n : o.isRo = false)
    (k : ∀ b x, b ≠ a → h.get? b = some x → h'.get? b = some x) (ho : ORel μ h' a o') (no : o'.isInst = false := by rfl) (na : o.isAux = false := by rfl) : HRel B μ (σ.set i o') h' := by
  have nb := r.new i a o e q n
  refine ⟨by simp [r.len], r.inj, fun b x y => k b x (fun z => by rw [z, nb] at y; cases y) (r.base b x y), fun j x p u v => ?_, fun j x p u v w => ?_, fun j x fs u v => ?_⟩
  · by_cases z : i = j
    · subst z
      rw [List.getElem?_set_self (by exact (List.getElem?_eq_some_iff.mp q).1)] at v
      cases v; rw [e] at u; cases u; exact ho
    · rw [List.getElem?_set_ne z] at v
      exact (r.obj j x p u v).mono (List.prefix_refl _) (fun ob y => k x ob (fun c => z (by subst c; exact r.inj i j x e u)) y)
  · by_cases z : i = j
    · subst z; rw [e] at u; cases u; exact nb
    · rw [List.getElem?_set_ne z] at v; exact r.new j x p u v w
  · by_cases z : i = j
    · subst z
      rw [List.getElem?_set_self (by exact (List.getElem?_eq_some_iff.mp q).1)] at v
      cases v; cases no
    · rw [List.getElem?_set_ne z] at v
      obtain ⟨h1, dx, h2, h3⟩ := r.ins j x fs u v
      have z2 : i ≠ j + 1 := fun c => by subst c; rw [q] at h1; cases h1; cases na
      exact ⟨by rw [List.getElem?_set_ne z2]; exact h1, dx, h2, h3.mono (List.prefix_refl _) (fun ob y => k x ob (fun c => z (by subst c; exact r.inj i j x e u)) y) (fun ob y => k dx ob (fun c => z2 (by subst c; exact r.inj i (j + 1) dx e h2)) y)⟩

theorem HRel.alive {B : Heap} {μ : List Addr} {σ : MH} {h : Heap} (r : HRel B μ σ h) {a : Addr} (q : a ∈ μ) : ∃ o, h.get? a = some o := by
  obtain ⟨i, hi, e⟩ := List.getElem_of_mem q
  have ei : μ[i]? = some a := by rw [List.getElem?_eq_getElem hi, e]
  have hs : i < σ.length := by rw [← r.len]; exact hi
  have := r.obj i _ _ ei (List.getElem?_eq_getElem hs)
  cases q : σ[i] with
  | list xs => rw [q] at this; obtain ⟨_, ys, n, g, _⟩ := this; exact ⟨_, g⟩
  | ro xs => rw [q] at this; obtain ⟨_, ys, n, g, _⟩ := this; exact ⟨_, g⟩
  | tup xs => rw [q] at this; obtain ⟨_, ys, n, g, _⟩ := this; exact ⟨_, g⟩
  | inst fs => rw [q] at this; exact this
  | aux => rw [q] at this; exact this
theorem HRel.ref {B : Heap} {μ : List Addr} {σ : MH} {h : Heap} (r : HRel B μ σ h) {i : Nat} {o : MObj} (q : σ[i]? = some o) : ∃ a, μ[i]? = some a ∧ ORel μ h a o := by
  have l : i < μ.length := by rw [r.len]; exact (List.getElem?_eq_some_iff.mp q).1
  exact ⟨μ[i], List.getElem?_eq_getElem l, r.obj i _ o (List.getElem?_eq_getElem l) q⟩
theorem HRel.at {B : Heap} {μ : List Addr} {σ : MH} {h : Heap} (r : HRel B μ σ h) {i : Nat} {a : Addr} {o : MObj} (e : μ[i]? = some a) (q : σ[i]? = some o) : ORel μ h a o := r.obj i a o e q

/-- what a sequence of ours is in the heap -/
theorem HRel.seq {B : Heap} {μ : List Addr} {σ : MH} {h : Heap} (r : HRel B μ σ h) {i : Nat} {a : Addr} {k : Bool} {xs : List Val} (e : μ[i]? = some a) (q : seqOf σ i = some (k, xs)) :
    xs.length ≤ lim ∧ ∃ ys n, VsRel μ xs ys ∧ h.get? a = some (if k then listObj ys n else tupObj ys n) := by
  unfold seqOf at q
  split at q
  · rename_i xs' z; cases q; obtain ⟨l, ys, n, u, v⟩ := r.at e z; exact ⟨l, ys, n, v, u⟩
  · rename_i xs' z; cases q; obtain ⟨l, ys, n, u, v⟩ := r.at e z; exact ⟨l, ys, n, v, u⟩
  · rename_i xs' z; cases q; obtain ⟨l, ys, n, u, v⟩ := r.at e z; exact ⟨l, ys, n, v, u⟩
  · cases q

noncomputable def isVar : Option NameKind → Bool
  | some .local | some .cell | some .free => true
  | _ => false

noncomputable def Bound (env : Env) (h : Heap) (x : Str) (v : Value) : Prop :=
  (env.kindOf x = some .local ∧ ∃ m, h.Ns env.locals m ∧ m x = some v) ∨
  ((env.kindOf x = some .cell ∨ env.kindOf x = some .free) ∧ ∃ c, env.cells.lookup x = some c ∧ h.IsCell c (some v))

/-- the frame: where it lies -/
structure Frm (B : Heap) (env : Env) (μ : List Addr) (h : Heap) : Prop where
  kind : env.scope.kind = .function
  glob : env.globals = mainGlobals
  bl : env.builtins = builtinsNs
  ns : ∃ m, h.Ns env.locals m
  locMu : env.locals ∉ μ
  locB : B.get? env.locals = none
  cell : ∀ x c, env.cells.lookup x = some c → (∃ v, h.IsCell c v) ∧ c ≠ env.locals ∧ c ∉ μ ∧ B.get? c = none
  cinj : ∀ x y c, env.cells.lookup x = some c → env.cells.lookup y = some c → x = y
  has : ∀ x, (env.kindOf x = some .cell ∨ env.kindOf x = some .free) → ∃ c, env.cells.lookup x = some c

noncomputable def Vars (env : Env) (sm : List (Str × Nat)) (ρ : Rho) (μ : List Addr) (h : Heap) : Prop :=
  ∀ (x : Str) (i : Nat) (v : Val), isVar (env.kindOf x) = true → sm.lookup x = some i → ρ[i]? = some (some v) → ∃ w, Bound env h x w ∧ VRel μ v w

theorem Ns_alive {h : Heap} {a : Addr} {m : Str → Option Value} (x : h.Ns a m) : ∃ o, h.get? a = some o := let ⟨o, _, _, e, _⟩ := x; ⟨o, e⟩
theorem Ns_at {h h' : Heap} {a : Addr} {m : Str → Option Value} (x : h.Ns a m) (k : ∀ o, h.get? a = some o → h'.get? a = some o) : h'.Ns a m := let ⟨o, es, ep, e, r⟩ := x; ⟨o, es, ep, k _ e, r⟩
theorem IsCell_at {h h' : Heap} {c : Addr} {v : Option Value} (x : h.IsCell c v) (k : ∀ o, h.get? c = some o → h'.get? c = some o) : h'.IsCell c v := let ⟨o, e, r⟩ := x; ⟨o, k _ e, r⟩
theorem Ns_look {h h' : Heap} {a : Addr} {m : Str → Option Value} (x : h.Ns a m) (k : ∀ o, look h a = some o → look h' a = some o) : h'.Ns a m := by
  obtain ⟨o, es, ep, e, d, r⟩ := x
  obtain ⟨o', e', q⟩ := look_elim (k _ (look_of e))
  exact ⟨o', es, ep, e', by rw [← nrm_data o', q, nrm_data]; exact d, r⟩
theorem IsCell_look {h h' : Heap} {c : Addr} {v : Option Value} (x : h.IsCell c v) (k : ∀ o, look h c = some o → look h' c = some o) : h'.IsCell c v := by
  obtain ⟨o, e, d⟩ := x
  obtain ⟨o', e', q⟩ := look_elim (k _ (look_of e))
  exact ⟨o', e', by rw [← nrm_data o', q, nrm_data]; exact d⟩
theorem Ns_uniq {h : Heap} {a : Addr} {m m' : Str → Option Value} (x : h.Ns a m) (y : h.Ns a m') : m = m' := by
  obtain ⟨o, es, ep, e, d, _, r⟩ := x
  obtain ⟨o', es', ep', e', d', _, r'⟩ := y
  rw [e] at e'; cases e'; rw [d] at d'; cases d'
  exact funext fun z => (r z).symm.trans (r' z)

/-- what a step leaves of a frame -/
theorem Bound.atL {env : Env} {h h' : Heap} {x : Str} {v : Value} (b : Bound env h x v) (kl : ∀ o, look h env.locals = some o → look h' env.locals = some o)
    (kc : ∀ c o, env.cells.lookup x = some c → look h c = some o → look h' c = some o) : Bound env h' x v := by
  rcases b with ⟨k, m, n, e⟩ | ⟨k, c, l, e⟩
  · exact .inl ⟨k, m, Ns_look n kl, e⟩
  · exact .inr ⟨k, c, l, IsCell_look e fun o => kc c o l⟩
theorem Bound.at {env : Env} {h h' : Heap} {x : Str} {v : Value} (b : Bound env h x v) (kl : ∀ o, h.get? env.locals = some o → h'.get? env.locals = some o)
    (kc : ∀ c o, env.cells.lookup x = some c → h.get? c = some o → h'.get? c = some o) : Bound env h' x v := b.atL (fun _ e => look_keep kl e) fun c _ q e => look_keep (fun o => kc c o q) e

theorem Frm.step {B : Heap} {env : Env} {μ μ' : List Addr} {h h' : Heap} (f : Frm B env μ h) (s : Step μ μ' h h') : Frm B env μ' h' := by
  obtain ⟨m, n⟩ := f.ns
  obtain ⟨o, e⟩ := Ns_alive n
  refine ⟨f.kind, f.glob, f.bl, ⟨m, Ns_look n fun o e => s.keep _ o f.locMu e⟩, s.notMem f.locMu e, f.locB, fun x c l => ?_, f.cinj, f.has⟩
  obtain ⟨⟨v, ic⟩, ne, nm, nb⟩ := f.cell x c l
  have ⟨o', e', _⟩ := ic
  exact ⟨⟨v, IsCell_look ic fun o e => s.keep _ o nm e⟩, ne, s.notMem nm e', nb⟩
theorem Vars.step {B : Heap} {env : Env} {sm : List (Str × Nat)} {ρ : Rho} {μ μ' : List Addr} {h h' : Heap} (f : Frm B env μ h) (vs : Vars env sm ρ μ h) (s : Step μ μ' h h') : Vars env sm ρ μ' h' :=
  fun x i v k l e => by
    obtain ⟨w, b, r⟩ := vs x i v k l e
    exact ⟨w, b.atL (fun o e => s.keep _ o f.locMu e) (fun c o q e => s.keep _ o (f.cell x c q).2.2.1 e), r.mono s.pre⟩

end Mine


-- part MiniHd
set_option maxRecDepth 100000
set_option linter.unusedVariables false
namespace Mine
open PySem

/-- an exception that is being handled has no other behind it -/
noncomputable def HdOk (A : Around) (μ : List Addr) (h : Heap) : Prop := ∀ v, A.handled = some v → ∃ e oe vs, v = .ref e ∧ e ∉ μ ∧ h.get? e = some oe ∧ oe.data = .fields vs ∧ vs[2]? = some .none
theorem HdOk.none {A : Around} {μ : List Addr} {h : Heap} (q : A.handled = none) : HdOk A μ h := fun v e => by rw [q] at e; cases e
theorem HdOk.step {A : Around} {μ μ' : List Addr} {h h' : Heap} (q : HdOk A μ h) (st : Step μ μ' h h') : HdOk A μ' h' := fun v e => by
  obtain ⟨a, oe, vs, q1, q2, q3, q4, q5⟩ := q v e
  exact ⟨a, oe, vs, q1, st.notMem q2 q3, st.get q2 q3 (fun es ep z => by rw [q4] at z; cases z), q4, q5⟩

theorem entry_unchain : entryFor table "proto.unchain" = some Builtin.«proto.unchain» := entryFor_of_tree (by kernel_rfl)

section
variable {prog : Program} {w : World} {A : Around} {E : Value → Shared → Prop} {s : Shared}

theorem raiseNew_h {α : Type} {a : Addr} {oa : Obj} {va : Array Value} {μ : List Addr} {Q : α → Shared → Prop} (hd : HdOk A μ s.heap) (ha : s.heap.get? a = some oa) (hva : oa.data = .fields va) (h2 : 2 < va.size)
    (h : ∀ h' oa', h'.get? a = some oa' → oa'.cls = oa.cls → Heap.SameBut a s.heap h' → E (.ref a) { s with heap := h' }) : wpAny (model prog w) A (raiseNew (.ref a) : Sem α) Q E s := by
  unfold raiseNew
  refine wpAny_bind (wpAny_handled ?_)
  cases q : A.handled with
  | none => exact wpAny_bind (wpAny_pure (wpAny_throw (h s.heap oa ha rfl ⟨rfl, fun _ _ => rfl⟩)))
  | some v =>
    obtain ⟨e, oe, vs, rfl, q2, q3, q4, q5⟩ := hd v q
    show wpAny (model prog w) A (if (Value.ref e != Value.ref a) = true then _ else _) Q E s
    by_cases z : (Value.ref e != Value.ref a) = true
    · rw [if_pos z]
      refine wpAny_bind (wpAny_holding (wpAny_runValue (codeAny_builtin entry_unchain ?_)))
      unfold Builtin.«proto.unchain»
      refine wpAny_bind (wpAny_field q3 q4 q5 ?_)
      rw [if_pos (by decide)]
      refine wpAny_pure (wpAny_bind (wpAny_setField (i := 2) (x := .ref e) ha hva h2 (wpAny_throw (h _ _ (Heap.get?_update_self _ ha (Obj.isFreed_of_fields (Obj.data_mapFields hva _))) (Obj.cls_mapFields ..) (Heap.SameBut.update ..)))))
    · rw [if_neg z]
      exact wpAny_throw (h s.heap oa ha rfl ⟨rfl, fun _ _ => rfl⟩)

theorem pyNext_range_end_h {it : Addr} {x left step : Int} {μ : List Addr} {Q : Option Value → Shared → Prop} (hd : HdOk A μ s.heap) (hit : IsRangeIter s.heap it x left step) (hleft : left ≤ 0)
    (hQ : ∀ h', Heap.ExtBut it s.heap h' → Q none { s with heap := h' }) : wpAny (model prog w) A (pyNext (.ref it)) Q E s := by
  have hT : s.TypeIs (.ref it) "range_iterator" := ⟨_, hit, rfl⟩
  unfold pyNext
  refine wpAny_bind (wpAny_attempt (wpAny_callSpecial?_slot (name := Str.ofString "__next__") hT F.slot_range_iterator_next
    (wpAny_call_entry F.slot_range_iterator_next hT F.entry_range_iterator_next ?_ (F.args_range_iterator_next_1 _))))
  show wpAny _ _ (field (.ref it) 0 >>= _) _ _ s
  refine wpAny_bind (wpAny_field hit rfl (x := rawInt x) rfl ?_)
  show wpAny _ _ (field (.ref it) 1 >>= _) _ _ s
  refine wpAny_bind (wpAny_field hit rfl (x := rawInt left) rfl ?_)
  show wpAny _ _ (field (.ref it) 2 >>= _) _ _ s
  refine wpAny_bind (wpAny_field hit rfl (x := rawInt step) rfl ?_)
  show wpAny _ _ (if left ≤ 0 then _ else _) _ _ s
  rw [if_pos hleft]
  refine wpAny_bind (wpAny_rule ?_)
  refine wpAny_bind ?_
  show wpAny _ _ (newExc (.type "StopIteration") [] >>= _) _ _ _
  refine wpAny_bind ?_
  simp only [newExc, newTuple]
  refine wpAny_bind (wpAny_newObj_type ?_ (by size_fits))
  refine wpAny_bind (m := firstArgMember _ _) (wpAny_of_eq (a := Value.none) (by first | rfl | (simp only [firstArgMember]; rfl)) ?_)
  refine wpAny_newObj_type ?_ (by size_fits)
  refine raiseNew_h (μ := []) (A := A.in1) ?_ (Heap.get?_push_size _ rfl) rfl (by show 2 < 6; decide) fun h' oa' e1 e2 sb => ?_
  · intro v e
    obtain ⟨a, oe, vs, q1, q2, q3, q4, q5⟩ := hd v e
    exact ⟨a, oe, vs, q1, List.not_mem_nil, Heap.get?_push_of_some _ (Heap.get?_push_of_some _ q3), q4, q5⟩
  · refine wpAny_bind (wpAny_isInstance (T := "StopIteration") (b := true) ⟨_, e1, e2⟩ isSubtype_stop ?_)
    refine wpAny_pure (hQ _ fun b o nb e => ?_)
    rw [sb.2 b (fun z => by rw [z] at e; exact absurd (Heap.lt_size e) (by simp))]
    exact Heap.get?_push_of_some _ (Heap.get?_push_of_some _ e)
end
end Mine


-- part MiniEq
set_option maxRecDepth 4000
set_option linter.unusedVariables false
namespace Mine
open PySem PySem.SeqAt

theorem eqP_refl {v : Val} {b : Bool} (h : eqP v v = some b) : b = true := by
  cases v with
  | none => cases h; rfl
  | bool a => have h : some (a == a) = some b := h; rw [beq_self_eq_true] at h; cases h; rfl
  | int a => have h : some (a == a) = some b := h; rw [beq_self_eq_true] at h; cases h; rfl
  | str a => have h : some (a == a) = some b := h; rw [beq_self_eq_true] at h; cases h; rfl
  | ref a => cases h
theorem eqL_refl {f : Val → Val → Option Bool} (hf : ∀ v b, f v v = some b → b = true) : ∀ {xs : List Val} {b : Bool}, eqL f xs xs = some b → b = true
  | [], _, h => by simpa [eqL] using h.symm
  | x :: xs, b, h => by
    simp only [eqL, Option.bind_eq_some_iff, Option.map_eq_some_iff] at h
    obtain ⟨c, hc, d, hd, e⟩ := h
    rw [← e, hf x c hc, eqL_refl hf hd]; rfl
theorem eqV_refl {σ : MH} : ∀ {n : Nat} {v : Val} {b : Bool}, eqV n σ v v = some b → b = true
  | 0, v, b, h => eqP_refl h
  | n + 1, v, b, h => by
    cases v with
    | ref i =>
      simp only [eqV] at h
      cases q : seqOf σ i with
      | none => rw [q] at h; simp at h
      | some p => obtain ⟨k, xs⟩ := p; rw [q] at h; simp at h; exact eqL_refl (fun v b => eqV_refl) h
    | none => exact eqP_refl (v := .none) h
    | bool b => exact eqP_refl (v := .bool b) h
    | int b => exact eqP_refl (v := .int b) h
    | str b => exact eqP_refl (v := .str b) h

theorem isList_of {h : Heap} {a : Addr} {ys : List Value} {n : Nat} (e : h.get? a = some (listObj ys n)) : h.IsList a ys.toArray := ⟨_, e, rfl, n, rfl⟩
theorem isTup_of {h : Heap} {a : Addr} {ys : List Value} {n : Nat} (e : h.get? a = some (tupObj ys n)) : h.IsTuple a ys.toArray := ⟨_, e, rfl, n, rfl⟩

theorem strBeq (a b : List Nat) : ((⟨a.toArray⟩ : Str) == ⟨b.toArray⟩) = (a == b) := by
  rw [Bool.eq_iff_iff]; simp

/-- both answers at once -/
noncomputable def Both (A : Around) (s : Shared) (v w : Value) (b : Bool) : Prop := RcAt A s v w b ∧ EqAt A s v w b ∧ RcNeAt A s v w (!b)

theorem eqP_both {A : Around} {s : Shared} {μ : List Addr} {v w : Val} {v' w' : Value} {b : Bool} (hv : VRel μ v v') (hw : VRel μ w w') (h : eqP v w = some b) : Both A s v' w' b := by
  cases v <;> cases w <;> first | (exact (Option.noConfusion h)) | skip
  all_goals simp only [VRel] at hv hw
  all_goals first
    | (obtain ⟨_, t, rfl⟩ := hv; obtain ⟨_, u, rfl⟩ := hw)
    | (obtain ⟨_, t, rfl⟩ := hv; obtain ⟨u, rfl⟩ := hw)
    | (obtain ⟨_, t, rfl⟩ := hv; subst hw)
    | (obtain ⟨t, rfl⟩ := hv; obtain ⟨_, u, rfl⟩ := hw)
    | (subst hv; obtain ⟨_, u, rfl⟩ := hw)
    | (obtain ⟨t, rfl⟩ := hv; obtain ⟨u, rfl⟩ := hw)
    | (obtain ⟨t, rfl⟩ := hv; subst hw)
    | (subst hv; obtain ⟨u, rfl⟩ := hw)
    | (subst hv; subst hw)
  all_goals cases h
  · exact ⟨RcAt.none_none, EqAt.same _, RcNeAt.none_none⟩
  · exact ⟨RcAt.none_bool _, EqAt.none_bool _, RcNeAt.none_bool _⟩
  · exact ⟨RcAt.none_int _ _, EqAt.none_int _ _, RcNeAt.none_int _ _⟩
  · exact ⟨RcAt.none_str _ _, EqAt.none_str _ _, RcNeAt.none_str _ _⟩
  · exact ⟨RcAt.bool_none _, EqAt.bool_none _, RcNeAt.bool_none _⟩
  · exact ⟨RcAt.bool_bool _ _, EqAt.bool_bool _ _, RcNeAt.bool_bool _ _⟩
  · exact ⟨RcAt.bool_int _ _ _, EqAt.bool_int _ _ _, RcNeAt.bool_int _ _ _⟩
  · exact ⟨RcAt.bool_str _ _ _, EqAt.bool_str _ _ _, RcNeAt.bool_str _ _ _⟩
  · exact ⟨RcAt.int_none _ _, EqAt.int_none _ _, RcNeAt.int_none _ _⟩
  · exact ⟨RcAt.int_bool _ _ _, EqAt.int_bool _ _ _, RcNeAt.int_bool _ _ _⟩
  · exact ⟨RcAt.int_int _ _ _ _, EqAt.int_int _ _ _ _, RcNeAt.int_int _ _ _ _⟩
  · exact ⟨RcAt.int_str _ _ _ _, EqAt.int_str _ _ _ _, RcNeAt.int_str _ _ _ _⟩
  · exact ⟨RcAt.str_none _ _, EqAt.str_none _ _, RcNeAt.str_none _ _⟩
  · exact ⟨RcAt.str_bool _ _ _, EqAt.str_bool _ _ _, RcNeAt.str_bool _ _ _⟩
  · exact ⟨RcAt.str_int _ _ _ _, EqAt.str_int _ _ _ _, RcNeAt.str_int _ _ _ _⟩
  · rename_i a c _ _
    have := strBeq a c
    exact ⟨by rw [← this]; exact RcAt.str_str _ _ _ _, by rw [← this]; exact EqAt.str_str _ _ _ _, by rw [← this]; exact RcNeAt.str_str _ _ _ _⟩

theorem eqL_get {f : Val → Val → Option Bool} : ∀ {xs ys : List Val} {b : Bool}, eqL f xs ys = some b → xs.length = ys.length →
    ∃ e : Nat → Bool, (∀ (j : Nat) x y, xs[j]? = some x → ys[j]? = some y → f x y = some (e j)) ∧ b = (List.range xs.length).all e
  | [], [], b, h, _ => ⟨fun _ => true, by simp, by simpa [eqL] using h.symm⟩
  | x :: xs, y :: ys, b, h, l => by
    simp only [eqL, Option.bind_eq_some_iff, Option.map_eq_some_iff] at h
    obtain ⟨c, hc, d, hd, e⟩ := h
    obtain ⟨g, h1, h2⟩ := eqL_get hd (by simpa using l)
    refine ⟨fun j => match j with | 0 => c | j + 1 => g j, fun j x' y' q r => ?_, ?_⟩
    · cases j with
      | zero => simp at q r; subst q; subst r; exact hc
      | succ j => simp at q r; exact h1 j x' y' q r
    · rw [← e, h2, List.length_cons, List.range_succ_eq_map]
      simp [List.all_map, Function.comp_def]
  | [], _ :: _, _, _, l => by simp at l
  | _ :: _, [], _, _, l => by simp at l

theorem mixedBoth {A : Around} {s : Shared} {μ : List Addr} {a : Addr} {v : Val} {v' : Value} (x : (∃ ys, s.heap.IsList a ys) ∨ (∃ ys, s.heap.IsTuple a ys)) (hu : A.units < cLine) (hv : VRel μ v v') (nr : ∀ i, v ≠ .ref i) :
    Both A s (.ref a) v' false ∧ Both A s v' (.ref a) false := by
  cases v with
  | none =>
    rw [show v' = _ from hv]
    rcases x with ⟨_, x⟩ | ⟨_, x⟩
    · exact ⟨⟨RcAt.list_none x hu, EqAt.list_none x hu, RcNeAt.list_none x hu⟩, ⟨RcAt.none_list x hu, EqAt.none_list x hu, RcNeAt.none_list x hu⟩⟩
    · exact ⟨⟨RcAt.tuple_none x hu, EqAt.tuple_none x hu, RcNeAt.tuple_none x hu⟩, ⟨RcAt.none_tuple x hu, EqAt.none_tuple x hu, RcNeAt.none_tuple x hu⟩⟩
  | bool b =>
    rw [show v' = _ from hv]
    rcases x with ⟨_, x⟩ | ⟨_, x⟩
    · exact ⟨⟨RcAt.list_bool _ x hu, EqAt.list_bool _ x hu, RcNeAt.list_bool _ x hu⟩, ⟨RcAt.bool_list _ x hu, EqAt.bool_list _ x hu, RcNeAt.bool_list _ x hu⟩⟩
    · exact ⟨⟨RcAt.tuple_bool _ x hu, EqAt.tuple_bool _ x hu, RcNeAt.tuple_bool _ x hu⟩, ⟨RcAt.bool_tuple _ x hu, EqAt.bool_tuple _ x hu, RcNeAt.bool_tuple _ x hu⟩⟩
  | int b =>
    obtain ⟨t, rfl⟩ := hv
    rcases x with ⟨_, x⟩ | ⟨_, x⟩
    · exact ⟨⟨RcAt.list_int _ _ x hu, EqAt.list_int _ _ x hu, RcNeAt.list_int _ _ x hu⟩, ⟨RcAt.int_list _ _ x hu, EqAt.int_list _ _ x hu, RcNeAt.int_list _ _ x hu⟩⟩
    · exact ⟨⟨RcAt.tuple_int _ _ x hu, EqAt.tuple_int _ _ x hu, RcNeAt.tuple_int _ _ x hu⟩, ⟨RcAt.int_tuple _ _ x hu, EqAt.int_tuple _ _ x hu, RcNeAt.int_tuple _ _ x hu⟩⟩
  | str b =>
    obtain ⟨_, t, rfl⟩ := hv
    rcases x with ⟨_, x⟩ | ⟨_, x⟩
    · exact ⟨⟨RcAt.list_str _ _ x hu, EqAt.list_str _ _ x hu, RcNeAt.list_str _ _ x hu⟩, ⟨RcAt.str_list _ _ x hu, EqAt.str_list _ _ x hu, RcNeAt.str_list _ _ x hu⟩⟩
    · exact ⟨⟨RcAt.tuple_str _ _ x hu, EqAt.tuple_str _ _ x hu, RcNeAt.tuple_str _ _ x hu⟩, ⟨RcAt.str_tuple _ _ x hu, EqAt.str_tuple _ _ x hu, RcNeAt.str_tuple _ _ x hu⟩⟩
  | ref i => exact absurd rfl (nr i)

theorem eqV_both {B : Heap} {μ : List Addr} {σ : MH} {s : Shared} (r : HRel B μ σ s.heap) : ∀ {n : Nat} {A : Around} {v w : Val} {v' w' : Value} {b : Bool}, A.units + n < cLine →
    VRel μ v v' → VRel μ w w' → eqV n σ v w = some b → Both A s v' w' b
  | 0, A, v, w, v', w', b, _, hv, hw, h => eqP_both hv hw h
  | n + 1, A, v, w, v', w', b, hu, hv, hw, h => by
    have hu' : A.units < cLine := by omega
    have mixed : ∀ {i : Nat} {a : Addr} {p : Bool × List Val}, μ[i]? = some a → seqOf σ i = some p → (∃ ys, s.heap.IsList a ys) ∨ (∃ ys, s.heap.IsTuple a ys) := fun {i a p} e q => by
      obtain ⟨k, xs⟩ := p
      obtain ⟨_, ys, n, _, u⟩ := r.seq e q
      cases k
      · exact .inr ⟨_, isTup_of u⟩
      · exact .inl ⟨_, isList_of u⟩
    by_cases hr : ∃ i j, v = .ref i ∧ w = .ref j
    · obtain ⟨i, j, rfl, rfl⟩ := hr
      obtain ⟨a, ea, rfl⟩ := hv
      obtain ⟨c, ec, rfl⟩ := hw
      have same : a = c → b = true := fun q => by
        have := r.inj i j a ea (q ▸ ec); subst this; exact eqV_refl h
      have both : (RcAt A s (.ref a) (.ref c) b ∧ RcNeAt A s (.ref a) (.ref c) (!b)) → Both A s (.ref a) (.ref c) b := fun x => ⟨x.1, by
        by_cases q : a = c
        · rw [same q, q]; exact EqAt.same _
        · exact EqAt.of_refs q x.1, x.2⟩
      simp only [eqV] at h
      split at h
      · rename_i k xs l ys q1 q2
        obtain ⟨l1, xs', n1, v1, u1⟩ := r.seq ea q1
        obtain ⟨l2, ys', n2, v2, u2⟩ := r.seq ec q2
        refine both ?_
        have items : ∀ e : Nat → Bool, (∀ (j : Nat) x y, xs[j]? = some x → ys[j]? = some y → eqV n σ x y = some (e j)) → ∀ j (h1 : j < xs'.toArray.size) (h2 : j < ys'.toArray.size), EqAt A.in1 s xs'.toArray[j] ys'.toArray[j] (e j) := fun e he j h1 h2 => by
          have g1 : j < xs.length := by rw [← v1.length]; simpa using h1
          have g2 : j < ys.length := by rw [← v2.length]; simpa using h2
          obtain ⟨x', p1, p2⟩ := v1.get (List.getElem?_eq_getElem g1)
          obtain ⟨y', p3, p4⟩ := v2.get (List.getElem?_eq_getElem g2)
          have t1 : xs'.toArray[j] = x' := by simp at h1 ⊢; rw [List.getElem?_eq_getElem h1] at p1; exact Option.some.inj p1
          have t2 : ys'.toArray[j] = y' := by simp at h2 ⊢; rw [List.getElem?_eq_getElem h2] at p3; exact Option.some.inj p3
          rw [t1, t2]
          exact (eqV_both r (n := n) (A := A.in1) (by show A.units + 1 + n < cLine; omega) p2 p4 (he j _ _ (List.getElem?_eq_getElem g1) (List.getElem?_eq_getElem g2))).2.1
        split at h
        · rename_i hkl; subst hkl
          split at h
          · rename_i hlen
            obtain ⟨e, he, hb⟩ := eqL_get h hlen
            cases k
            · have t1 := RcAt.tuples (isTup_of u1) (isTup_of u2) hu' (items e he)
              have t2 := RcNeAt.tuples (isTup_of u1) (isTup_of u2) hu' (items e he)
              rw [hb]
              have z : xs'.toArray.size = ys'.toArray.size := by simp [v1.length, v2.length, hlen]
              rw [z, Nat.min_self, ← z] at t1 t2
              exact ⟨by simpa [v1.length] using t1, by simpa [v1.length] using t2⟩
            · have t1 := RcAt.lists (isList_of u1) (isList_of u2) (by simp [v1.length, v2.length, hlen]) hu' (items e he)
              have t2 := RcNeAt.lists (isList_of u1) (isList_of u2) (by simp [v1.length, v2.length, hlen]) hu' (items e he)
              rw [hb]; exact ⟨by simpa [v1.length] using t1, by simpa [v1.length] using t2⟩
          · rename_i hlen
            have z : (xs'.toArray.size != ys'.toArray.size) = true := by simp [v1.length, v2.length, hlen]
            cases k
            · simp at h
            · simp at h; subst h; exact ⟨RcAt.lists_lengths (isList_of u1) (isList_of u2) z hu', RcNeAt.lists_lengths (isList_of u1) (isList_of u2) z hu'⟩
        · rename_i hkl; cases h
          cases k <;> cases l
          · exact absurd rfl hkl
          · exact ⟨RcAt.tuple_list (isTup_of u1) (isList_of u2) hu', RcNeAt.tuple_list (isTup_of u1) (isList_of u2) hu'⟩
          · exact ⟨RcAt.list_tuple (isList_of u1) (isTup_of u2) hu', RcNeAt.list_tuple (isList_of u1) (isTup_of u2) hu'⟩
          · exact absurd rfl hkl
      · cases h
    · cases v with
      | ref i =>
        obtain ⟨a, ea, rfl⟩ := hv
        cases w with
        | ref j => exact absurd ⟨_, _, rfl, rfl⟩ hr
        | _ =>
          simp only [eqV, Option.map_eq_some_iff] at h
          obtain ⟨p, hp, rfl⟩ := h
          exact (mixedBoth (mixed ea hp) hu' hw (by intro _; simp)).1
      | _ =>
        cases w with
        | ref j =>
          obtain ⟨a, ea, rfl⟩ := hw
          simp only [eqV, Option.map_eq_some_iff] at h
          obtain ⟨p, hp, rfl⟩ := h
          exact (mixedBoth (mixed ea hp) hu' hv (by intro _; simp)).2
        | _ => exact eqP_both hv hw h

end Mine


-- part MiniVal
set_option maxRecDepth 4000
set_option linter.unusedVariables false
namespace Mine
open PySem

/-- where exceptions go: the frames, the post -/
structure XE where
  l : List Env
  E : Value → Shared → Prop

/-- the classes of exceptions, by number -/
noncomputable def clsName : Nat → Str
  | 0 => "SplitError" | 1 => "NoPeople" | 2 => "TooMany" | 3 => "Uneven" | 4 => "BadBid" | 5 => "NoDeal" | 6 => "NoPerson" | 7 => "NoGood" | _ => "NoText"
noncomputable def clsK (B : Heap) (c : Nat) : Addr := match B.nsMap mainGlobals (clsName c) with | some (.ref a) => a | _ => 0

noncomputable abbrev bmVE : List Value := [.type "ValueError", .type "Exception", .type "BaseException", .type "object"]
noncomputable def tlK (B : Heap) (c : Nat) : List Value := (if c = 0 then [] else [.ref (clsK B 0)]) ++ bmVE
noncomputable abbrev exQuiet : List Str := ["__init__", "__getattribute__", "__getattr__", "__class__"]
/-- a class of exceptions as it stands -/
noncomputable def ExcCls (B : Heap) (c : Nat) : Prop := c < 9 ∧ (∃ c0 dd sl cd m0, B.get? (clsK B 0) = some { cls := c0, dict := dd, data := .cls cd, slots := sl } ∧ cd.name = clsName 0 ∧ B.Ns cd.ns m0 ∧ ∀ n ∈ exQuiet, m0 n = none) ∧
  ∃ N q bs hdct sn sub ab col dd k0 k1 k2 k3 k5 mN, B.get? (clsK B c) = some (excClassObj (clsName c) q (clsK B c) N bs (tlK B c) hdct sn sub ab col dd k0 k1 k2 k3 k5 "ValueError.__new__") ∧ B.Ns N mN ∧ (∀ n ∈ exQuiet, mN n = none) ∧ OwnTail B bmVE (tlK B c)
noncomputable abbrev HX (B : Heap) (μ : List Addr) (σ : MH) (base : Heap) (c : Nat) : Prop := HRel B μ σ base ∧ ExcCls B c

/-- no other exception behind it -/
noncomputable def Ctx0 (h : Heap) (e : Addr) : Prop := ∃ oe vs, h.get? e = some oe ∧ oe.data = .fields vs ∧ vs[2]? = some .none
noncomputable def Trc (h base : Heap) (e : Addr) (cls : Value) : Prop := (∃ a0 fl, h.TracedAtW base e cls a0 fl) ∧ Ctx0 h e
/-- an exception at a frame: just made there, or with a traceback -/
noncomputable def ExcAt (base : Heap) (l : List Env) (C e : Addr) (h' : Heap) : Prop :=
  base.StaysIn h' ∧ base.get? e = none ∧ h'.FunFrames base l ∧
  ((∃ oe vs a0, h'.get? e = some oe ∧ oe.cls = .ref C ∧ oe.data = .fields vs ∧ vs[0]? = some a0 ∧ vs[1]? = some .none ∧ vs[2]? = some .none) ∨ Trc h' base e (.ref C))
/-- the way to an exception: what was there, dicts aside, stands in the base -/
structure StepX (μ μ' : List Addr) (h base h' : Heap) : Prop where
  step : Step μ μ' h h'
  based : ∀ b o, b ∉ μ → look h b = some o → (∀ es ep, o.data ≠ .dict es ep) → ∃ o', base.get? b = some o'
theorem Step.transX' {μ μ' μ'' : List Addr} {h h' h'' base : Heap} (s : Step μ μ' h h') (t : StepX μ' μ'' h' base h'') : StepX μ μ'' h base h'' :=
  ⟨s.trans t.step, fun b o n e nd => t.based b o (s.notMemL n e) (s.keep b o n e) nd⟩
noncomputable def PostX (B : Heap) (X : XE) (μ : List Addr) (s : Shared) (c : Nat) (σ : MH) : Prop :=
  ∀ μ' h' tk e base, HX B μ' σ base c → StepX μ μ' s.heap base h' → ExcAt base X.l (clsK B c) e h' → X.E (.ref e) { s with heap := h', toks := tk }
theorem PostX.step {B : Heap} {X : XE} {μ μ' : List Addr} {s : Shared} {c : Nat} {σ : MH} {h' : Heap} {tk : Nat} (p : PostX B X μ s c σ) (st : Step μ μ' s.heap h') : PostX B X μ' { s with heap := h', toks := tk } c σ :=
  fun μ'' h'' tk' e base r st' x => p μ'' h'' tk' e base r (st.transX' st') x

noncomputable def Post {α β : Type} (B : Heap) (X : XE) (V : List Addr → α → β → Prop) (μ : List Addr) (s : Shared) (Q : β → Shared → Prop) : Res α → Prop
  | .ok v σ => ∀ μ' w h' tk, HRel B μ' σ h' → Step μ μ' s.heap h' → V μ' v w → Q w { s with heap := h', toks := tk }
  | .exc c σ => PostX B X μ s c σ
  | .stuck => False

noncomputable def BRel (_ : List Addr) (a b : Bool) : Prop := a = b

class Small (n : Nat) : Prop where
  lt : n < 1000
/-- n = 1000: inside of a handler -/
structure AOk (n : Nat) (A : Around) : Prop where
  hnd : n < 1000 → A.handled = none
  depth : n < 1000 → A.depth + 2 * n + 1 < 900
  units : A.units + 20 * (n % 1000) + 110 < 9900
theorem AOk.handled {n : Nat} [i : Small n] {A : Around} (h : AOk n A) : A.handled = none := h.hnd i.lt
/-- what a call wants -/
structure AOk0 (n : Nat) (A : Around) : Prop where
  handled : A.handled = none
  depth : A.depth + 2 * n < 900
  units : A.units + 20 * n + 100 < 9900
theorem AOk.low {n : Nat} [i : Small n] {A : Around} (h : AOk n A) : AOk0 n A := ⟨h.handled, by have := h.depth i.lt; omega, by have := h.units; have := i.lt; omega⟩

theorem AOk.u {n : Nat} {A : Around} (h : AOk n A) (k : Nat) (hk : k ≤ 100 := by omega) : A.units + k < cLine := by have := h.units; show _ < 9900; omega

section
variable {B : Heap} {X : XE} {μ : List Addr} {σ : MH} {s : Shared}

theorem Post.here {α β : Type} {V : List Addr → α → β → Prop} {Q : β → Shared → Prop} {v : α} {w : β} {tk : Nat} (r : HRel B μ σ s.heap) (p : Post B X V μ s Q (.ok v σ)) (hv : V μ v w) : Q w { s with toks := tk } :=
  p μ w s.heap tk r (Step.refl _ _) hv
theorem Post.here' {α β : Type} {V : List Addr → α → β → Prop} {Q : β → Shared → Prop} {v : α} {w : β} (r : HRel B μ σ s.heap) (p : Post B X V μ s Q (.ok v σ)) (hv : V μ v w) : Q w s :=
  p μ w s.heap s.toks r (Step.refl _ _) hv
theorem Post.grow {α β : Type} {V : List Addr → α → β → Prop} {Q : β → Shared → Prop} {v : α} {w : β} {h' : Heap} {tk : Nat} (r : HRel B μ σ s.heap) (p : Post B X V μ s Q (.ok v σ)) (k : ∀ b o, s.heap.get? b = some o → h'.get? b = some o) (hv : V μ v w) : Q w { s with heap := h', toks := tk } :=
  p μ w h' tk (r.grow k) (Step.grow k) hv
theorem Post.step {α β : Type} {V : List Addr → α → β → Prop} {Q : β → Shared → Prop} {x : Res α} {μ' : List Addr} {h' : Heap} {tk : Nat} (p : Post B X V μ s Q x) (st : Step μ μ' s.heap h') : Post B X V μ' { s with heap := h', toks := tk } Q x := by
  cases x with
  | ok v σ' => intro μ'' w h'' tk' r st' hv; exact p μ'' w h'' tk' r (st.trans st') hv
  | exc c h => exact PostX.step p st
  | stuck => exact p

theorem HRel.fresh (r : HRel B μ σ s.heap) : s.heap.objs.size ∉ μ := fun q => by
  obtain ⟨o, g⟩ := r.alive q; exact absurd (Heap.lt_size g) (Nat.lt_irrefl _)
theorem HRel.freshB (r : HRel B μ σ s.heap) : B.get? s.heap.objs.size = none := by
  cases e : B.get? s.heap.objs.size with
  | none => rfl
  | some o => exact absurd (Heap.lt_size (r.base _ _ e)) (Nat.lt_irrefl _)
theorem size_none (h : Heap) : h.get? h.objs.size = none := by
  cases e : h.get? h.objs.size with
  | none => rfl
  | some o => exact absurd (Heap.lt_size e) (Nat.lt_irrefl _)

/-- a new object at the heap's end, or at any address that was free -/
theorem Post.newAt {Q : Value → Shared → Prop} {o : MObj} {a : Addr} {h' : Heap} {tk : Nat} (r : HRel B μ σ s.heap) (p : Post B X VRel μ s Q (newObj o σ)) (k : ∀ b ob, s.heap.get? b = some ob → h'.get? b = some ob)
    (fm : a ∉ μ) (fb : B.get? a = none) (fh : s.heap.get? a = none) (ho : ORel (μ ++ [a]) h' a o) (no : o.isInst = false := by rfl) : Q (.ref a) { s with heap := h', toks := tk } := by
  refine p (μ ++ [a]) _ h' tk (r.alloc k fm fb ho no) ⟨List.prefix_append _ _, fun b ob _ e => look_keep (k b) e, fun b x y => ?_⟩ ⟨a, ?_, rfl⟩
  · rcases List.mem_append.mp x with x | x
    · exact absurd x y
    · rw [List.mem_singleton.mp x]; exact fh
  · rw [← r.len, List.getElem?_append_right (Nat.le_refl _), Nat.sub_self]; rfl
theorem Post.new {Q : Value → Shared → Prop} {o : MObj} {h' : Heap} {tk : Nat} (r : HRel B μ σ s.heap) (p : Post B X VRel μ s Q (newObj o σ)) (k : ∀ b ob, s.heap.get? b = some ob → h'.get? b = some ob)
    (ho : ORel (μ ++ [s.heap.objs.size]) h' s.heap.objs.size o) (no : o.isInst = false := by rfl) : Q (.ref s.heap.objs.size) { s with heap := h', toks := tk } :=
  p.newAt r k r.fresh r.freshB (size_none _) ho no
theorem Post.newList {Q : Value → Shared → Prop} {xs : List Val} {ys : List Value} {n : Nat} {h' : Heap} {tk : Nat} (r : HRel B μ σ s.heap) (p : Post B X VRel μ s Q (newList xs σ)) (k : ∀ b ob, s.heap.get? b = some ob → h'.get? b = some ob)
    (e : h'.get? s.heap.objs.size = some (listObj ys n)) (hv : VsRel μ xs ys) : Q (.ref s.heap.objs.size) { s with heap := h', toks := tk } := by
  unfold Mine.newList at p
  split at p
  · rename_i hl; exact p.new r k ⟨hl, ys, n, e, hv.mono (List.prefix_append _ _)⟩
  · exact p.elim
theorem newList_len {Q : Value → Shared → Prop} {xs : List Val} (p : Post B X VRel μ s Q (Mine.newList xs σ)) : xs.length ≤ lim := by
  unfold Mine.newList at p
  split at p
  · assumption
  · exact p.elim
theorem push_keep (h : Heap) (o : Obj) : ∀ b ob, h.get? b = some ob → (h.push o).get? b = some ob := fun _ _ e => Heap.get?_push_of_some o e

/-- an object of ours changes -/
theorem Post.upd {α β : Type} {V : List Addr → α → β → Prop} {Q : β → Shared → Prop} {v : α} {w : β} {i : Nat} {a : Addr} {o o' : MObj} {h' : Heap} {tk : Nat} (r : HRel B μ σ s.heap) (p : Post B X V μ s Q (.ok v (σ.set i o')))
    (e : μ[i]? = some a) (q : σ[i]? = some o) (nr : o.isRo = false) (k : ∀ b x, b ≠ a → s.heap.get? b = some x → h'.get? b = some x) (ho : ORel μ h' a o') (hv : V μ v w) (no : o'.isInst = false := by rfl) (na : o.isAux = false := by rfl) : Q w { s with heap := h', toks := tk } :=
  p μ w h' tk (r.upd e q nr k ho no na) ⟨List.prefix_refl _, fun b ob n g => look_keep (fun o' => k b o' (fun z => n (z ▸ List.mem_of_getElem? e))) g, fun _ x y => absurd x y⟩ hv

variable {prog : Program} {w : World} {A : Around} {E : Value → Shared → Prop} {n : Nat}

theorem truthy_sound {v : Val} {v' : Value} {Q : Bool → Shared → Prop} (r : HRel B μ σ s.heap) (hv : VRel μ v v') (p : Post B X BRel μ s Q (Res.opt (truthyV σ v) σ)) : wpAny (model prog w) A (truthy v') Q E s := by
  cases v with
  | none => rw [show v' = _ from hv]; exact PyProof.Rows.truthy_none (p.here' r rfl)
  | bool b => rw [show v' = _ from hv]; exact wpAny_truthy_bool (p.here' r rfl)
  | int i => obtain ⟨t, rfl⟩ := hv; exact PyProof.Rows.truthy_int (p.here' r rfl)
  | str x =>
    obtain ⟨l, t, rfl⟩ := hv
    have hl : x.length ≤ 1048576 := l
    have e : (⟨x.toArray⟩ : Str).length = x.length := by simp [Str.length]
    refine P.truthy_str (by rw [e]; omega) (p.here r ?_)
    rw [e]; cases x <;> simp [BRel]
    omega
  | ref i =>
    obtain ⟨a, ea, rfl⟩ := hv
    simp only [truthyV] at p
    cases q : seqOf σ i with
    | none => rw [q] at p; exact p.elim
    | some z =>
      obtain ⟨k, xs⟩ := z
      rw [q] at p
      cases k
      · exact p.elim
      · obtain ⟨l, ys, n, hv, u⟩ := r.seq ea q
        have hl : ys.length ≤ 1048576 := by rw [hv.length]; exact l
        refine wpAny_truthy_list (isList_of u) (by simp; omega) (p.here r ?_)
        show (!xs.isEmpty) = _
        have := hv.length
        cases xs <;> cases ys <;> simp_all

theorem mulOk_of {a b : Int} (h : mulOk a b = true) : IntMulOk a b := by
  have key : ∀ x : Int, x.natAbs < 9223372036854775808 → Builtin.Int.intBits x ≤ 64 := fun x hx => by
    unfold Builtin.Int.intBits
    split
    · omega
    · have : x.natAbs.log2 < 63 := (Nat.log2_lt (by simp_all)).mpr (by omega)
      omega
  unfold mulOk at h
  rcases Bool.or_eq_true_iff.mp h with h | h
  · exact IntMulOk.of_left (key a (of_decide_eq_true h))
  · exact IntMulOk.of_right (key b (of_decide_eq_true h))

theorem idx_seq {i : Int} {n k : Nat} (h : idxOf i n = some k) : seqIndex? i n = some k ∧ k < n ∧ -(n : Int) ≤ i ∧ i < n := by
  unfold idxOf at h
  split at h
  · split at h
    · cases h; exact ⟨seqIndex_of (by assumption) (by assumption), by omega, by omega, by omega⟩
    · cases h
  · split at h
    · cases h; exact ⟨seqIndex_neg (by omega) (by omega), by omega, by omega, by omega⟩
    · cases h

theorem strLen (x : List Nat) : (⟨x.toArray⟩ : Str).length = x.length := by simp [Str.length]
theorem strApp (x y : List Nat) : (⟨x.toArray⟩ : Str) ++ ⟨y.toArray⟩ = ⟨(x ++ y).toArray⟩ := by
  show Str.append _ _ = _; unfold Str.append; simp

theorem foldl_app (items : Array Value) : ∀ (n : Nat) (acc : Array Value), (List.foldl (fun x1 x2 => x1 ++ x2) acc (List.replicate n items)) = acc ++ (List.replicate n items.toList).flatten.toArray
  | 0, acc => by simp
  | n + 1, acc => by rw [List.replicate_succ, List.foldl_cons, foldl_app items n, List.replicate_succ, List.flatten_cons, Array.append_assoc]; congr 1; apply Array.toList_inj.mp; simp

theorem bin_sound {op : Operator} {v u : Val} {v' u' : Value} {Q : Value → Shared → Prop} (r : HRel B μ σ s.heap) (hv : VRel μ v v') (hu : VRel μ u u') (p : Post B X VRel μ s Q (binV σ op v u)) : wpAny (model prog w) A (binaryOp op v' u') Q E s := by
  cases v with
  | none => exact p.elim
  | bool => exact p.elim
  | int a =>
    cases u with
    | int b =>
      cases op with
      | Add =>
        obtain ⟨t, rfl⟩ := hv; obtain ⟨t', rfl⟩ := hu; exact PyProof.Rows.add_int (p.here r ⟨_, rfl⟩)
      | Sub =>
        obtain ⟨t, rfl⟩ := hv; obtain ⟨t', rfl⟩ := hu; exact PyProof.Rows.sub_int (p.here r ⟨_, rfl⟩)
      | Mult =>
        have p : Post B X VRel μ s Q (if mulOk a b then .ok (.int (a * b)) σ else .stuck) := p
        obtain ⟨t, rfl⟩ := hv; obtain ⟨t', rfl⟩ := hu
        split at p
        · rename_i hm
          exact PyProof.Rows.mul_int (p.here r ⟨_, rfl⟩) (mulOk_of hm)
        · exact p.elim
      | FloorDiv =>
        have p : Post B X VRel μ s Q (if 0 < b ∧ b < 1073741824 then .ok (.int (a / b)) σ else .stuck) := p
        obtain ⟨t, rfl⟩ := hv; obtain ⟨t', rfl⟩ := hu
        split at p
        · rename_i hm
          refine PyProof.Rows.floordiv_int (by omega) ?_ (.inl (PyProof.noPylong_small (by omega)))
          rw [Int.fdiv_eq_ediv_of_nonneg _ (by omega)]
          exact p.here r ⟨_, rfl⟩
        · exact p.elim
      | Mod =>
        have p : Post B X VRel μ s Q (if 0 < b then .ok (.int (a % b)) σ else .stuck) := p
        obtain ⟨t, rfl⟩ := hv; obtain ⟨t', rfl⟩ := hu
        split at p
        · rename_i hm
          refine PyProof.Rows.mod_int' (by omega) ?_
          rw [Int.fmod_eq_emod_of_nonneg _ (by omega)]
          exact p.here r ⟨_, rfl⟩
        · exact p.elim
      | _ => exact p.elim
    | _ => exact p.elim
  | str a =>
    cases u with
    | str b =>
      cases op with
      | Add =>
        have p : Post B X VRel μ s Q (if a.length + b.length ≤ lim then .ok (.str (a ++ b)) σ else .stuck) := p
        obtain ⟨l1, t, rfl⟩ := hv; obtain ⟨l2, t', rfl⟩ := hu
        split at p
        · rename_i hm
          have l3 : a.length ≤ 1048576 := l1
          have l4 : b.length ≤ 1048576 := l2
          refine PyProof.Rows.add_str (fun t' tk => ?_) (by rw [strLen, strLen]; show _ ≤ 2 ^ 24; omega)
          rw [strApp]
          exact p.here r ⟨by rw [List.length_append]; exact hm, t', rfl⟩
        · exact p.elim
      | _ => exact p.elim
    | _ => exact p.elim
  | ref i =>
    cases u with
    | ref j =>
      cases op with
      | Add =>
        have p : Post B X VRel μ s Q (addRR σ i j) := p
        obtain ⟨a, ea, rfl⟩ := hv; obtain ⟨b, eb, rfl⟩ := hu
        unfold addRR at p
        split at p
        · rename_i xs ys q1 q2
          obtain ⟨l1, xs', n1, u1, v1⟩ := r.at ea q1
          obtain ⟨l2, ys', n2, u2, v2⟩ := r.at eb q2
          have l3 : xs.length ≤ 1048576 := l1
          have l4 : ys.length ≤ 1048576 := l2
          refine PySem.P.add_list u1 u2 (p.newList (ys := xs' ++ ys') (n := 0) r (push_keep _ _) ?_ (v1.append v2)) (by simp [v1.length, v2.length]; show _ ≤ 2 ^ 24; omega)
          rw [Heap.get?_push_size _ rfl]; simp
        · exact p.elim
      | _ => exact p.elim
    | int m =>
      cases op with
      | Mult =>
        have p : Post B X VRel μ s Q (mulRI σ i m) := p
        obtain ⟨a, ea, rfl⟩ := hv; obtain ⟨t, rfl⟩ := hu
        unfold mulRI at p
        split at p
        · rename_i xs q1
          split at p
          · rename_i hb
            obtain ⟨l1, xs', n1, u1, v1⟩ := r.at ea q1
            have l3 : xs.length ≤ 1048576 := l1
            have hl := newList_len p
            have hm : (List.replicate m.toNat xs).flatten.length = m.toNat * xs.length := by simp [List.length_flatten]
            have hlim : lim = 1048576 := rfl
            have hsz : xs'.toArray.size * m.toNat ≤ 2 ^ 24 := by
              rw [hm] at hl
              simp [v1.length]; rw [Nat.mul_comm]; omega
            refine wpAny_binaryOp_repeat_ref (T := "list") (U := "int") (by decide) ⟨_, u1, rfl⟩ (fun s' => typeIs_int s' m t) noFill_list_mul F.fills_int_mul F.slot_int_rmul repeat_list F.slot_int_index.lookup
              (call_meets F.slot_int_rmul (typeIs_int s m t) F.entry_int_rmul (F.args_int_rmul_2 _ _) (int___rmul___int_list m t a xs'.toArray n1)
                ⟨u1, rfl, ⟨_, u1, rfl⟩, call_meets F.slot_list_mul ⟨_, u1, rfl⟩ F.entry_list_mul (F.args_list_mul_2 _ _)
                  (AutoListH.list___mul___list_int_3 a xs'.toArray n1 m t (by simp [Builtin.List.listFitsIndex]; omega) (by omega) (by simp [Builtin.List.listTooLong, sizeLine]; simp at hsz; omega))
                  ⟨u1, ?_⟩⟩)
            have e2 : (List.foldl (fun x1 x2 => x1 ++ x2) #[] (List.replicate (if xs'.toArray.isEmpty = true then 0 else m.toNat) xs'.toArray)) = (List.replicate m.toNat xs').flatten.toArray := by
              rw [foldl_app]
              split
              · rename_i he
                have : xs' = [] := by simpa using he
                subst this
                simp
              · simp
            rw [e2]
            exact p.newList (n := 0) r (push_keep _ _) (Heap.get?_push_size _ rfl) (v1.flat _)
          · exact p.elim
        · exact p.elim
      | _ => exact p.elim
    | _ => exact p.elim

end
end Mine


-- part MiniExc
set_option maxRecDepth 4000
set_option linter.unusedVariables false
namespace Mine
open PySem

/-- changes outside of ours -/
theorem HRel.other {B : Heap} {μ : List Addr} {σ : MH} {h h' : Heap} {P : Addr → Prop} (r : HRel B μ σ h) (k : ∀ b o, ¬ P b → h.get? b = some o → h'.get? b = some o) (hm : ∀ b, P b → b ∉ μ) (hB : ∀ b, P b → B.get? b = none) : HRel B μ σ h' :=
  ⟨r.len, r.inj, fun b o e => k b o (fun q => by rw [hB b q] at e; cases e) (r.base b o e), fun i a o e q => (r.obj i a o e q).mono (List.prefix_refl _) fun ob g => k a ob (fun z => hm a z (List.mem_of_getElem? e)) g, r.new, fun i a fs e q => by
    obtain ⟨h1, dx, h2, h3⟩ := r.ins i a fs e q
    exact ⟨h1, dx, h2, h3.mono (List.prefix_refl _) (fun ob g => k a ob (fun z => hm a z (List.mem_of_getElem? e)) g) (fun ob g => k dx ob (fun z => hm dx z (List.mem_of_getElem? h2)) g)⟩⟩

open Classical in
/-- a heap, some addresses taken out -/
noncomputable def cut (P : Addr → Prop) (h : Heap) : Heap := { h with objs := h.objs.mapIdx fun i o => if P i then { o with data := .freed } else o }
theorem cut_none {P : Addr → Prop} {h : Heap} {b : Addr} (p : P b) : (cut P h).get? b = none := by
  unfold cut Heap.get?
  simp only [Array.getElem?_mapIdx]
  cases h.objs[b]? with
  | none => rfl
  | some o => simp only [Option.map_some, if_pos p]
theorem cut_get {P : Addr → Prop} {h : Heap} {b : Addr} (p : ¬ P b) : (cut P h).get? b = h.get? b := by
  unfold cut Heap.get?
  simp only [Array.getElem?_mapIdx]
  cases h.objs[b]? with
  | none => rfl
  | some o => simp only [Option.map_some, if_neg p]
theorem cut_in {P : Addr → Prop} {h : Heap} : (cut P h).StaysIn h := fun b o e => by
  by_cases p : P b
  · rw [cut_none p] at e; cases e
  · rwa [cut_get p] at e

/-- the frames' locals stand in the heap, apart from our objects -/
noncomputable def FrOk (B : Heap) (l : List Env) (μ : List Addr) (h : Heap) : Prop := ∀ e, e ∈ l → e.scope.kind ≠ .module ∧ ∃ L, e.frame = some L ∧ L ∉ μ ∧ B.get? L = none ∧ ∃ m, h.Ns L m
theorem FrOk.step {B : Heap} {l : List Env} {μ μ' : List Addr} {h h' : Heap} (f : FrOk B l μ h) (st : Step μ μ' h h') : FrOk B l μ' h' := fun e he => by
  obtain ⟨h1, L, h2, h3, h4, m, h5⟩ := f e he
  obtain ⟨o, e0⟩ := Ns_alive h5
  exact ⟨h1, L, h2, st.notMem h3 e0, h4, m, Ns_look h5 fun o e => st.keep L o h3 e⟩
theorem FrOk.fun {B : Heap} {μ : List Addr} {h h' base : Heap} : ∀ {l : List Env}, FrOk B l μ h → (∀ e L, e ∈ l → e.frame = some L → base.get? L = none) → (∀ b o, h.get? b = some o → h'.get? b = some o) → h'.FunFrames base l
  | [], _, _, _ => trivial
  | e :: l, f, p, k => by
    obtain ⟨h1, L, h2, h3, h4, m, o, es, ep, h5, h6, _⟩ := f e (.head _)
    exact ⟨h1, ⟨L, o, h2, p e L (.head _) h2, k _ _ h5, fun vs q => by rw [h6] at q; cases q⟩, FrOk.fun (fun e he => f e (.tail _ he)) (fun e L he => p e L (.tail _ he)) k⟩
theorem funFrames_base {h base base' : Heap} (k : ∀ b, base.get? b = none → base'.get? b = none) : ∀ {l : List Env}, h.FunFrames base l → h.FunFrames base' l
  | [], _ => trivial
  | _ :: _, ⟨h1, ⟨L, o, h2, h3, h4⟩, h5⟩ => ⟨h1, ⟨L, o, h2, k _ h3, h4⟩, funFrames_base k h5⟩
theorem funFrames_at {h h' base : Heap} : ∀ {l : List Env}, h.FunFrames base l → (∀ e, e ∈ l → ∀ L o, e.frame = some L → h.get? L = some o → h'.get? L = some o) → h'.FunFrames base l
  | [], _, _ => trivial
  | e :: _, ⟨h1, ⟨L, o, h2, h3, h4, h6⟩, h5⟩, k => ⟨h1, ⟨L, o, h2, h3, k e (.head _) L o h2 h4, h6⟩, funFrames_at h5 fun e he => k e (.tail _ he)⟩
/-- the slots of dicts may change on the way -/
theorem look_hop {base h' h'' : Heap} {b : Addr} {o : Obj} (e : look h' b = some o) (bs : (∀ es ep, o.data ≠ .dict es ep) → ∃ o', base.get? b = some o') (s1 : base.StaysIn h') (s2 : base.StaysIn h'') (u : h'.UpToSlots h'') : look h'' b = some o := by
  by_cases d : ∃ es ep, o.data = .dict es ep
  · obtain ⟨es, ep, d⟩ := d
    obtain ⟨o', e', rfl⟩ := look_elim e
    rw [nrm_data] at d
    obtain ⟨sl, e2⟩ := u b o' e' fun vs q => by rw [d] at q; cases q
    rw [look_of e2]
    obtain ⟨c, dd, dt, ss⟩ := o'
    have d : dt = .dict es ep := d
    subst d; rfl
  · obtain ⟨o', e'⟩ := bs fun es ep q => d ⟨es, ep, q⟩
    rw [look_of (s1 b o' e')] at e
    rw [look_of (s2 b o' e')]; exact e
theorem StepX.hop {μ μ' : List Addr} {h base h' h'' : Heap} (x : StepX μ μ' h base h') (s1 : base.StaysIn h') (s2 : base.StaysIn h'') (u : h'.UpToSlots h'') : StepX μ μ' h base h'' :=
  ⟨⟨x.step.pre, fun b o n e => look_hop (x.step.keep b o n e) (x.based b o n e) s1 s2 u, x.step.fresh⟩, x.based⟩

section
variable {M : Model} {A : Around} {E : Value → Shared → Prop} {s : Shared} {base : Heap} {l : List Env} {C e : Addr}

theorem fly_set {f : Option Addr} {cls : Value} {Q : Unit → Shared → Prop} (k1 : base.StaysIn s.heap) (k2 : s.heap.FunFrames base l) (t : Trc s.heap base e cls)
    (h : ∀ h', base.StaysIn h' → h'.FunFrames base l → Trc h' base e cls → s.heap.UpToSlots h' → Q () { s with heap := h' }) : wpAny M A (setFlight (.ref e) f) Q E s := by
  obtain ⟨⟨a0, fl, oe, vs, T, oT, ts, t1, t2, t3, t4, t5, t6, t7, t8, t9⟩, oe', vs', c1, c2, c3⟩ := t
  have sz : 3 < ts.size := (Array.getElem?_eq_some_iff.mp t9).1
  unfold setFlight
  refine wpAny_bind (wpAny_field t1 t3 t4 ?_)
  rw [if_pos (show (Value.ref T != Value.none) = true by simp)]
  have ot : ∀ b, b ≠ T → (s.heap.update T (Obj.mapFields (·.setIfInBounds 3 (f.elim Value.none fun f => rawInt f)))).get? b = s.heap.get? b := fun b q => Heap.get?_update_other _ _ (Ne.symm q)
  have up : s.heap.UpToSlots (s.heap.update T (Obj.mapFields (·.setIfInBounds 3 (f.elim Value.none fun f => rawInt f)))) := fun b o q nf => ⟨o.slots, (ot b fun z => by rw [z, t7] at q; cases q; exact nf ts t8).trans q⟩
  refine wpAny_setField t7 t8 sz (h _ (fun b o q => (ot b fun z => by rw [z, t5] at q; cases q).trans (k1 b o q)) (k2.of_keeps fun b o q nf => let ⟨sl, q'⟩ := up b o q nf; ⟨_, q', rfl⟩) ?_ up)
  exact ⟨⟨a0, _, oe, vs, T, _, _, (ot e (Ne.symm t6)).trans t1, t2, t3, t4, t5, t6, Heap.get?_update_self _ t7 (Obj.isFreed_of_fields (Obj.data_mapFields t8 _)), Obj.data_mapFields t8 _, by rw [Array.getElem?_setIfInBounds_self_of_lt sz]⟩, oe', vs', (ot e (Ne.symm t6)).trans c1, c2, c3⟩

/-- a new entry of the traceback -/
theorem entry_c {env : Env} {outer : List Env} {L : Addr} {oe : Obj} {vs : Array Value} {head a0 : Value} {hadNext : Bool} {Q : Unit → Shared → Prop}
    (hfr : A.frames = some (env :: outer)) (hl : s.heap.FunFrames base (env :: outer)) (hf : env.frame = some L)
    (he : s.heap.get? e = some oe) (hkb : base.StaysIn s.heap) (hen : base.get? e = none) (hd : oe.data = .fields vs) (hsz : 1 < vs.size) (h0 : vs[0]? = some a0) (h2 : vs[2]? = some .none)
    (h : ∀ h', base.StaysIn h' → h'.FunFrames base (env :: outer) → Trc h' base e oe.cls → s.heap.UpToSlots h' → Q () { s with heap := h' }) :
    wpAny M A (do let a ← frameOf env; let pl ← entryPlaceOf L hadNext; let b ← EntryCells.newEntry head a .none (rawInt L) .none pl; setField (.ref e) 1 b) Q E s := by
  have rec_ne : ∀ b o, s.heap.get? b = some o → (∀ vs, o.data ≠ .fields vs) → b ≠ e := fun b o hb nf q => by
    rw [q, he] at hb; cases hb; exact nf vs hd
  have hne : e ∉ (env :: outer).filterMap (·.frame) := fun hm => by
    obtain ⟨_, o, ho, nf⟩ := hl.mem hm
    exact rec_ne e o ho nf rfl
  refine wpAny_bind (wpAny_frameOf_fun hfr hl hf fun h₁ hs => wpAny_bind (wpAny_entryPlaceOf fun pl hpl => ?_))
  unfold EntryCells.newEntry newFields
  refine wpAny_bind (wpAny_newObj_type ?_ (hpl.sizeOk5 _ _ _ _ _))
  have e1 : h₁.get? e = some oe := (hs.2.1 e hne).trans he
  have kb : base.StaysIn h₁ := fun b o q => (hs.2.1 b fun hm => by rw [(hl.mem hm).1] at q; cases q).trans (hkb b o q)
  have t3 : ([head, .ref L, .none, rawInt L, .none] ++ (if pl.isEmpty then List.replicate 6 Value.none else pl)).toArray[3]? = some (rawInt L) := by rcases hpl with rfl | ⟨_, _, _, _, _, _, _, rfl⟩ <;> rfl
  dsimp only
  generalize ([head, .ref L, .none, rawInt L, .none] ++ (if pl.isEmpty then List.replicate 6 Value.none else pl)).toArray = tb at t3
  have nT : h₁.objs.size ≠ e := Nat.ne_of_gt (Heap.lt_size e1)
  refine wpAny_setField (s := { s with heap := h₁.push { cls := .type "traceback", data := .fields tb } }) (Heap.get?_push_of_some _ e1) hd hsz ?_
  have keep : ∀ b o, b ≠ e → h₁.get? b = some o → ((h₁.push { cls := .type "traceback", data := .fields tb }).update e (Obj.mapFields (·.setIfInBounds 1 (Value.ref h₁.objs.size)))).get? b = some o := fun b o n q => by
    rw [Heap.get?_update_other _ _ (Ne.symm n)]; exact Heap.get?_push_of_some _ q
  have d3 := Obj.data_mapFields hd (·.setIfInBounds 1 (Value.ref h₁.objs.size))
  have e3 := Heap.get?_update_self (h := h₁.push { cls := .type "traceback", data := .fields tb }) (Obj.mapFields (·.setIfInBounds 1 (Value.ref h₁.objs.size))) (Heap.get?_push_of_some _ e1) (Obj.isFreed_of_fields d3)
  refine h _ (fun b o q => keep b o (fun z => by rw [z, hen] at q; cases q) (kb b o q)) (hl.of_keeps fun b o q nf => ?_) ⟨⟨a0, rawInt L, _, _, h₁.objs.size, _, tb, e3, ⟨Obj.cls_mapFields _ _, by rw [Array.getElem?_setIfInBounds_ne (by decide)]; exact h0⟩, d3, by simp [hsz], kb.fresh, nT,
    (Heap.get?_update_other _ _ (Ne.symm nT)).trans (Heap.get?_push_size h₁ rfl), rfl, t3⟩, _, _, e3, d3, by rw [Array.getElem?_setIfInBounds_ne (by decide)]; exact h2⟩ fun b o q nf => ?_
  · obtain ⟨sl, hs⟩ := hs.2.2 b o q
    exact ⟨_, keep b _ (rec_ne b o q nf) hs, rfl⟩
  · obtain ⟨sl, hs⟩ := hs.2.2 b o q
    exact ⟨sl, keep b _ (rec_ne b o q nf) hs⟩

theorem frameOf_eq {a b : Env} (h : a.frame = b.frame) : frameOf a = frameOf b := by unfold frameOf; rw [h]
theorem noteFrame_eq {a b : Env} (h : a.frame = b.frame) (v : Value) : noteFrame v a = noteFrame v b := by unfold noteFrame; rw [h, frameOf_eq h]

theorem fly_note {env e0 : Env} {outer : List Env} {Q : Unit → Shared → Prop} (hfr : A.frames = some (e0 :: outer)) (he : e0.frame = env.frame) (x : ExcAt base (e0 :: outer) C e s.heap)
    (h : ∀ h', base.StaysIn h' → h'.FunFrames base (e0 :: outer) → Trc h' base e (.ref C) → s.heap.UpToSlots h' → Q () { s with heap := h' }) : wpAny M A (noteFrame (.ref e) env) Q E s := by
  rw [noteFrame_eq he.symm]
  obtain ⟨k1, k2, k3, k4⟩ := x
  have ⟨_, ⟨L, oL, hf, _⟩, _⟩ := k3
  unfold noteFrame
  simp only [hf]
  rcases k4 with ⟨oe, vs, a0, t1, t2, t3, t4, t5, c3⟩ | ⟨⟨a0, fl, oe, vs, T, oT, ts, t1, ⟨t2, t0⟩, t3, t4, t5, t6, t7, t8, t9⟩, oe', vs', c1, c2, c3⟩
  · refine wpAny_bind (wpAny_field t1 t3 t5 ?_)
    rw [if_neg (by decide)]
    exact entry_c hfr k3 hf t1 k1 k2 t3 (Array.getElem?_eq_some_iff.mp t5).1 t4 c3 fun h' n1 n2 n3 n4 => h h' n1 n2 (t2 ▸ n3) n4
  · refine wpAny_bind (wpAny_field t1 t3 t4 ?_)
    rw [if_pos (show (Value.ref T != Value.none) = true by simp)]
    refine wpAny_bind (wpAny_field t7 t8 t9 ?_)
    by_cases q : (fl == rawInt L) = true
    · rw [if_pos q]
      exact wpAny_pure (h s.heap k1 k3 ⟨⟨a0, fl, oe, vs, T, oT, ts, t1, ⟨t2, t0⟩, t3, t4, t5, t6, t7, t8, t9⟩, oe', vs', c1, c2, c3⟩ (Heap.UpToSlots.refl _))
    · rw [if_neg q]
      have ot : ∀ b, b ≠ T → (s.heap.update T (Obj.mapFields (·.setIfInBounds 3 Value.none))).get? b = s.heap.get? b := fun b q => Heap.get?_update_other _ _ (Ne.symm q)
      have up : s.heap.UpToSlots (s.heap.update T (Obj.mapFields (·.setIfInBounds 3 Value.none))) := fun b o q nf => ⟨o.slots, (ot b fun z => by rw [z, t7] at q; cases q; exact nf ts t8).trans q⟩
      refine wpAny_bind (wpAny_setField t7 t8 (Array.getElem?_eq_some_iff.mp t9).1 ?_)
      rw [t1] at c1; cases c1; rw [t3] at c2; cases c2
      refine entry_c hfr (k3.of_keeps fun b o q nf => let ⟨sl, q'⟩ := up b o q nf; ⟨_, q', rfl⟩) hf ((ot e (Ne.symm t6)).trans t1) (fun b o q => (ot b fun z => by rw [z, t5] at q; cases q).trans (k1 b o q)) k2 t3 (Array.getElem?_eq_some_iff.mp t4).1 t0 c3
        fun h' n1 n2 n3 n4 => h h' n1 n2 (t2 ▸ n3) (up.trans n4)

theorem fly_leave {env : Env} {outer : List Env} {Q : Unit → Shared → Prop} (hfr : A.frames = some (env :: outer)) (x : ExcAt base (env :: outer) C e s.heap)
    (h : ∀ h', ExcAt base outer C e h' → s.heap.UpToSlots h' → Q () { s with heap := h' }) : wpAny M A (leaving env (.ref e)) Q E s := by
  unfold leaving
  refine wpAny_bind (fly_note hfr rfl x fun h1 k1 k2 k3 k4 => ?_)
  exact fly_set (s := { s with heap := h1 }) k1 k2 k3 fun h2 n1 n2 n3 n4 => h h2 ⟨n1, x.2.1, n2.2.2, .inr n3⟩ (k4.trans n4)

variable {B : Heap} {X : XE} {μ : List Addr} {c : Nat} {σ : MH} {env : Env}

/-- the frame's end of the way: a note, and what follows -/
noncomputable def Here (A : Around) (l : List Env) (env : Env) : Prop := A.frames = some l ∧ ∃ e0 outer, l = e0 :: outer ∧ e0.frame = env.frame

theorem PostX.ofNoted {l : List Env} {R : Value → Shared → Prop} (hh : Here A l env)
    (k : ∀ μ' h' tk e base, HX B μ' σ base c → StepX μ μ' s.heap base h' → base.StaysIn h' → base.get? e = none → h'.FunFrames base l → Trc h' base e (.ref (clsK B c)) → R (.ref e) { s with heap := h', toks := tk }) :
    PostX B ⟨l, notedBy M A env R⟩ μ s c σ := fun μ' h' tk e base r st x => by
  obtain ⟨hfr, e0, outer, rfl, he⟩ := hh
  exact fly_note (s := { s with heap := h', toks := tk }) hfr he x fun h2 n1 n2 n3 n4 => k μ' h2 tk e base r (st.hop x.1 n1 n4) n1 x.2.1 n2 n3
theorem came_back {cls : Value} (k1 : base.StaysIn s.heap) (k2 : s.heap.FunFrames base l) (t : Trc s.heap base e cls)
    (h : ∀ h', base.StaysIn h' → h'.FunFrames base l → Trc h' base e cls → s.heap.UpToSlots h' → E (.ref e) { s with heap := h' }) : cameBackBy M A env E (.ref e) s := by
  have ⟨⟨_, _, oe, vs, T, oT, ts, t1, t2, t3, t4, t5, t6, t7, t8, t9⟩, _⟩ := t
  unfold cameBackBy
  refine wpAny_bind (wpAny_field t1 t3 t4 ?_)
  rw [if_neg (by simp)]
  exact fly_set k1 k2 t h
theorem PostX.back (p : PostX B X μ s c σ) (hh : Here A X.l env) : PostX B ⟨X.l, notedBy M A env (cameBackBy M A env X.E)⟩ μ s c σ :=
  PostX.ofNoted hh fun μ' h' tk e base r st n1 n0 n2 n3 => came_back (s := { s with heap := h', toks := tk }) n1 n2 n3 fun h3 m1 m2 m3 m4 => p μ' h3 tk e base r (st.hop n1 m1 m4) ⟨m1, n0, m2, .inr m3⟩
/-- some addresses that were not there change -/
theorem StepX.cut {P : Addr → Prop} {h h' h'' : Heap} {μ' : List Addr} (x : StepX μ μ' h base h') (hP : ∀ b, P b → h.get? b = none) (k : ∀ b o, ¬ P b → h'.get? b = some o → h''.get? b = some o) : StepX μ μ' h (cut P base) h'' :=
  ⟨⟨x.step.pre, fun b o n e => look_keep (fun o' e' => k b o' (fun q => by obtain ⟨o2, e2, _⟩ := look_elim e; rw [hP b q] at e2; cases e2) e') (x.step.keep b o n e), x.step.fresh⟩, fun b o n e nd => by
    rw [cut_get fun q => by obtain ⟨o2, e2, _⟩ := look_elim e; rw [hP b q] at e2; cases e2]
    exact x.based b o n e nd⟩
theorem cut_less {P : Addr → Prop} {h : Heap} (b : Addr) (e : h.get? b = none) : (cut P h).get? b = none := by
  by_cases p : P b
  · exact cut_none p
  · rw [cut_get p]; exact e
theorem cut_keep {P : Addr → Prop} {h h' h'' : Heap} (s : h.StaysIn h') (k : ∀ b o, ¬ P b → h'.get? b = some o → h''.get? b = some o) : (cut P h).StaysIn h'' := fun b o e => by
  by_cases p : P b
  · rw [cut_none p] at e; cases e
  · rw [cut_get p] at e; exact k b o p (s b o e)
end
end Mine


-- part MiniVal2
set_option maxRecDepth 4000
set_option linter.unusedVariables false
namespace Mine
open PySem PySem.SeqAt

section
variable {B : Heap} {X : XE} {μ : List Addr} {σ : MH} {s : Shared}
variable {prog : Program} {w : World} {A : Around} {E : Value → Shared → Prop} {n : Nat}

noncomputable def boolRes (r : Res Bool) : Res Val := r.bind fun t h => .ok (.bool t) h

theorem inL_get {σ : MH} {v : Val} : ∀ {xs : List Val} {b : Bool}, inL σ v xs = some b → ∃ e : Nat → Bool, (∀ (j : Nat) x, xs[j]? = some x → eqV 4 σ x v = some (e j)) ∧ b = (List.range xs.length).any e
  | [], b, h => ⟨fun _ => true, by simp, by simpa [inL] using h.symm⟩
  | x :: xs, b, h => by
    simp only [inL, Option.bind_eq_some_iff, Option.map_eq_some_iff] at h
    obtain ⟨c, hc, d, hd, e⟩ := h
    obtain ⟨g, h1, h2⟩ := inL_get hd
    refine ⟨fun j => match j with | 0 => c | j + 1 => g j, fun j x' q => ?_, ?_⟩
    · cases j with
      | zero => simp at q; subst q; exact hc
      | succ j => simp at q; exact h1 j x' q
    · rw [← e, h2, List.length_cons, List.range_succ_eq_map]
      simp [List.any_map, Function.comp_def]

theorem VRel.inj {x x' : Val} {y : Value} (r : HRel B μ σ s.heap) (h : VRel μ x y) (h' : VRel μ x' y) : x = x' := by
  cases x <;> cases x' <;> simp only [VRel] at h h'
  all_goals first
    | rfl
    | (subst h; cases h'; done)
    | (subst h; cases h'; rfl)
    | (subst h; obtain ⟨_, q⟩ := h'; cases q; done)
    | (subst h; obtain ⟨_, _, q⟩ := h'; cases q; done)
    | (subst h'; obtain ⟨_, q⟩ := h; cases q; done)
    | (subst h'; obtain ⟨_, _, q⟩ := h; cases q; done)
    | (obtain ⟨_, rfl⟩ := h; obtain ⟨_, q⟩ := h'; cases q; rfl)
    | (obtain ⟨_, rfl⟩ := h; obtain ⟨_, _, q⟩ := h'; cases q; done)
    | (obtain ⟨_, _, rfl⟩ := h; obtain ⟨_, q⟩ := h'; cases q; done)
    | (obtain ⟨_, _, rfl⟩ := h; obtain ⟨_, _, q⟩ := h'; cases q; done)
    | (obtain ⟨_, _, rfl⟩ := h; obtain ⟨_, _, q⟩ := h'; simp at q; rw [q.1]; done)
    | (obtain ⟨_, e, rfl⟩ := h; obtain ⟨_, e', q⟩ := h'; cases q; rw [r.inj _ _ _ e e']; done)

open Classical in
noncomputable def eV (μ : List Addr) (σ : MH) (v : Val) (y : Value) : Bool := decide (∃ x, VRel μ x y ∧ eqV 4 σ x v = some true)
theorem eV_of {v x : Val} {y : Value} (r : HRel B μ σ s.heap) (h : VRel μ x y) : eV μ σ v y = decide (eqV 4 σ x v = some true) := by
  unfold eV
  rw [Bool.eq_iff_iff]; simp only [decide_eq_true_eq]
  exact ⟨fun ⟨x', p, q⟩ => VRel.inj r p h ▸ q, fun q => ⟨x, h, q⟩⟩

theorem eqs_at {v : Val} {v' : Value} {xs : List Val} {ys : List Value} {b : Bool} (r : HRel B μ σ s.heap) (ub : A.units + 4 < cLine) (hv : VRel μ v v') (hy : VsRel μ xs ys) (h : inL σ v xs = some b) :
    ∃ ev : Value → Bool, (∀ y, y ∈ ys.toArray → EqAt A s y v' (ev y)) ∧ ∀ (j : Nat) x (h1 : j < ys.length), xs[j]? = some x → ev ys[j] = decide (eqV 4 σ x v = some true) := by
  obtain ⟨e, he, _⟩ := inL_get h
  have ev : ∀ (j : Nat) x (h1 : j < ys.length), xs[j]? = some x → VRel μ x ys[j] := fun j x h1 q => by
    obtain ⟨x', p1, p2⟩ := hy.get q
    rw [List.getElem?_eq_getElem h1] at p1
    rw [Option.some.inj p1]; exact p2
  refine ⟨eV μ σ v, fun y hm => ?_, fun j x h1 q => eV_of r (ev j x h1 q)⟩
  obtain ⟨j, h1, rfl⟩ := List.getElem_of_mem (show y ∈ ys by simpa using hm)
  have g1 : j < xs.length := by rw [← hy.length]; exact h1
  have q := List.getElem?_eq_getElem g1
  rw [eV_of r (ev j _ h1 q)]
  have k := (eqV_both r ub (ev j _ h1 q) hv (he j _ q)).2.1
  rw [he j _ q]
  cases z : e j <;> rw [z] at k <;> simpa using k

theorem in_sound {v u : Val} {v' u' : Value} {b : Bool} (ok : AOk n A) (r : HRel B μ σ s.heap) (hv : VRel μ v v') (hu : VRel μ u u') (h : inV σ v u = some b) :
    (∀ {Q : Value → Shared → Prop}, Q (.bool b) s → wpAny (model prog w) A (compareOp .In v' u') Q E s) ∧ (∀ {Q : Value → Shared → Prop}, Q (.bool (!b)) s → wpAny (model prog w) A (compareOp .NotIn v' u') Q E s) := by
  cases u with
  | none => cases h
  | bool => cases h
  | int => cases h
  | str x =>
    cases v with
    | str y =>
      cases y with
      | nil => cases h
      | cons c rr =>
        cases rr with
        | cons => cases h
        | nil =>
          obtain ⟨_, t, rfl⟩ := hv; obtain ⟨_, t', rfl⟩ := hu
          have e := PySem.StrLaws.found_one ⟨x.toArray⟩ c
          have h : decide (c ∈ x) = b := Option.some.inj h
          have e : (!(Builtin.Str.occurrences ⟨x.toArray⟩ ⟨[c].toArray⟩ 0 (⟨x.toArray⟩ : Str).length 1).isEmpty) = b := by rw [← h]; exact e
          exact ⟨fun {Q} hQ => PySem.P.in_str (by rw [e]; exact hQ), fun {Q} hQ => PySem.P.notIn_str (by rw [e]; exact hQ)⟩
    | none => cases h
    | bool => cases h
    | int => cases h
    | ref => cases h
  | ref i =>
    obtain ⟨a, ea, rfl⟩ := hu
    have h : (match seqOf σ i with | some (true, xs) => inL σ v xs | some (false, _) => none | none => none) = some b := h
    split at h
    · rename_i xs q
      obtain ⟨l, ys, k, hy, g⟩ := r.seq ea q
      obtain ⟨ev, hall, hev⟩ := eqs_at (A := A.in1) r (by have := ok.u 5; show A.units + 1 + 4 < cLine; omega) hv hy h
      obtain ⟨e, he, hb⟩ := inL_get h
      have hany : ys.toArray.any ev = b := by
        have key : ∀ (j : Nat) (h1 : j < ys.length), ev ys[j] = e j := fun j h1 => by
          have g1 : j < xs.length := by rw [← hy.length]; exact h1
          rw [hev j _ h1 (List.getElem?_eq_getElem g1), he j _ (List.getElem?_eq_getElem g1)]; cases e j <;> rfl
        rw [hb, ← hy.length, List.any_toArray, Bool.eq_iff_iff, List.any_eq_true, List.any_eq_true]
        constructor
        · rintro ⟨y, hm, hq⟩
          obtain ⟨j, h1, rfl⟩ := List.getElem_of_mem hm
          exact ⟨j, List.mem_range.mpr h1, by rw [← key j h1]; exact hq⟩
        · rintro ⟨j, hm, hq⟩
          have h1 : j < ys.length := List.mem_range.mp hm
          exact ⟨_, List.getElem_mem h1, by rw [key j h1]; exact hq⟩
      have hl : s.heap.IsList a ys.toArray := isList_of g
      exact ⟨fun {Q} hQ => in_listAt ev hl hall (by rw [hany]; exact hQ), fun {Q} hQ => notIn_listAt ev hl hall (by rw [hany]; exact hQ)⟩
    · cases h
    · cases h

theorem cmp_sound {op : CmpOp} {v u : Val} {v' u' : Value} {Q : Value → Shared → Prop} (ok : AOk n A) (r : HRel B μ σ s.heap) (hv : VRel μ v v') (hu : VRel μ u u')
    (p : Post B X VRel μ s Q (boolRes (Res.opt (cmpV σ op v u) σ))) : wpAny (model prog w) A (compareOp op v' u') Q E s := by
  cases q : cmpV σ op v u with
  | none => rw [q] at p; exact p.elim
  | some b =>
    rw [q] at p
    have fin : Q (.bool b) s := p.here' r rfl
    have ub : A.units + 8 < cLine := ok.u 8
    cases op with
    | Eq =>
      exact (show wpAny (model prog w) A (richCompare .Eq v' u') Q E s from (eqV_both r ub hv hu q).1 _ _ _ _ fin)
    | NotEq =>
      have q : Option.map (!·) (eqV 8 σ v u) = some b := q
      rw [Option.map_eq_some_iff] at q
      obtain ⟨c, hc, rfl⟩ := q
      exact (show wpAny (model prog w) A (richCompare .NotEq v' u') Q E s from (eqV_both r ub hv hu hc).2.2 _ _ _ _ fin)
    | Is =>
      cases u with
      | none =>
        cases q
        rw [show u' = _ from hu]
        refine is_none ?_
        cases v with
        | none => rw [show v' = _ from hv]; exact fin
        | bool b => rw [show v' = _ from hv]; exact fin
        | int i => obtain ⟨t, rfl⟩ := hv; exact fin
        | str i => obtain ⟨_, t, rfl⟩ := hv; exact fin
        | ref i => obtain ⟨a, _, rfl⟩ := hv; exact fin
      | _ => cases q
    | IsNot =>
      cases u with
      | none =>
        cases q
        rw [show u' = _ from hu]
        refine isNot_none ?_
        cases v with
        | none => rw [show v' = _ from hv]; exact fin
        | bool b => rw [show v' = _ from hv]; exact fin
        | int i => obtain ⟨t, rfl⟩ := hv; exact fin
        | str i => obtain ⟨_, t, rfl⟩ := hv; exact fin
        | ref i => obtain ⟨a, _, rfl⟩ := hv; exact fin
      | _ => cases q
    | In =>
      exact (in_sound ok r hv hu q).1 fin
    | NotIn =>
      have q : Option.map (!·) (inV σ v u) = some b := q
      rw [Option.map_eq_some_iff] at q
      obtain ⟨c, hc, rfl⟩ := q
      exact (in_sound ok r hv hu hc).2 fin
    | Lt =>
      cases v with
      | int x =>
        cases u with
        | int y =>
          obtain ⟨t, rfl⟩ := hv; obtain ⟨t', rfl⟩ := hu
          cases q; exact PyProof.Rows.lt_int fin
        | _ => cases q
      | _ => cases q
    | LtE =>
      cases v with
      | int x =>
        cases u with
        | int y =>
          obtain ⟨t, rfl⟩ := hv; obtain ⟨t', rfl⟩ := hu
          cases q; exact PyProof.Rows.le_int fin
        | _ => cases q
      | _ => cases q
    | Gt =>
      cases v with
      | int x =>
        cases u with
        | int y =>
          obtain ⟨t, rfl⟩ := hv; obtain ⟨t', rfl⟩ := hu
          cases q; exact PyProof.Rows.gt_int fin
        | _ => cases q
      | _ => cases q
    | GtE =>
      cases v with
      | int x =>
        cases u with
        | int y =>
          obtain ⟨t, rfl⟩ := hv; obtain ⟨t', rfl⟩ := hu
          cases q; exact PyProof.Rows.ge_int fin
        | _ => cases q
      | _ => cases q

end
end Mine


-- part MiniVal3
set_option maxRecDepth 4000
set_option linter.unusedVariables false
namespace Mine
open PySem PySem.SeqAt

section
variable {B : Heap} {X : XE} {μ : List Addr} {σ : MH} {s : Shared}
variable {prog : Program} {w : World} {A : Around} {E : Value → Shared → Prop} {n : Nat}

theorem un_sound {op : UnaryOp} {v : Val} {v' : Value} {Q : Value → Shared → Prop} (r : HRel B μ σ s.heap) (hv : VRel μ v v') (p : Post B X VRel μ s Q (unV σ op v)) : wpAny (model prog w) A (unaryOp op v') Q E s := by
  unfold unV at p
  split at p
  · split at p
    · rename_i b hb
      refine not_value (truthy_sound (X := X) r hv ?_)
      rw [hb]
      intro μ' b' h' tk r' st e
      rw [← show b = b' from e]
      exact p μ' _ h' tk r' st rfl
    · exact p.elim
  · obtain ⟨t, rfl⟩ := hv
    exact PyProof.Rows.neg_int (p.here r ⟨_, rfl⟩)
  · exact p.elim

noncomputable def tyName : Ty → String
  | .int => "int" | .bool => "bool" | .list => "list" | .tuple => "tuple" | .str => "str"

theorem isinst_sound {ty : Ty} {v : Val} {v' : Value} {Q : Value → Shared → Prop} (r : HRel B μ σ s.heap) (hv : VRel μ v v') (p : Post B X VRel μ s Q (boolRes (Res.opt (isInstV σ ty v) σ))) :
    wpAny (model prog w) A (call (.builtin "isinstance") [v', .type (tyName ty)]) Q E s := by
  cases v with
  | none =>
    rw [show v' = _ from hv]
    cases ty
    · exact IsiPair.NoneType_int (p.here r rfl)
    · exact IsiPair.NoneType_bool (p.here r rfl)
    · exact IsiPair.NoneType_list (p.here r rfl)
    · exact IsiPair.NoneType_tuple (p.here r rfl)
    · exact IsiPair.NoneType_str (p.here r rfl)
  | bool b =>
    rw [show v' = _ from hv]
    cases ty
    · exact IsiPair.bool_int (p.here' r rfl)
    · exact IsiPair.bool_bool (p.here' r rfl)
    · exact IsiPair.bool_list (p.here r rfl)
    · exact IsiPair.bool_tuple (p.here r rfl)
    · exact IsiPair.bool_str (p.here r rfl)
  | int i =>
    obtain ⟨t, rfl⟩ := hv
    cases ty
    · exact IsiPair.int_int (p.here' r rfl)
    · exact IsiPair.int_bool (p.here r rfl)
    · exact IsiPair.int_list (p.here r rfl)
    · exact IsiPair.int_tuple (p.here r rfl)
    · exact IsiPair.int_str (p.here r rfl)
  | str i =>
    obtain ⟨_, t, rfl⟩ := hv
    cases ty
    · exact IsiPair.str_int (p.here r rfl)
    · exact IsiPair.str_bool (p.here r rfl)
    · exact IsiPair.str_list (p.here r rfl)
    · exact IsiPair.str_tuple (p.here r rfl)
    · exact IsiPair.str_str (p.here' r rfl)
  | ref i =>
    obtain ⟨a, ea, rfl⟩ := hv
    cases q : seqOf σ i with
    | none =>
      have e : isInstV σ ty (.ref i) = none := by cases ty <;> (show Option.map _ (seqOf σ i) = none; rw [q]; rfl)
      rw [e] at p; exact p.elim
    | some z =>
      obtain ⟨k, xs⟩ := z
      obtain ⟨l, ys, m, hy, g⟩ := r.seq ea q
      have e : isInstV σ ty (.ref i) = some (match ty with | .list => k | .tuple => !k | _ => false) := by cases ty <;> (show Option.map _ (seqOf σ i) = _; rw [q]; rfl)
      rw [e] at p
      cases k <;> simp only [Bool.false_eq_true, if_false, if_true] at g <;> cases ty
      · exact IsiPair.tuple_int g rfl (p.here r rfl)
      · exact IsiPair.tuple_bool g rfl (p.here r rfl)
      · exact IsiPair.tuple_list g rfl (p.here r rfl)
      · exact IsiPair.tuple_tuple g rfl (p.here' r rfl)
      · exact IsiPair.tuple_str g rfl (p.here r rfl)
      · exact IsiPair.list_int g rfl (p.here r rfl)
      · exact IsiPair.list_bool g rfl (p.here r rfl)
      · exact IsiPair.list_list g rfl (p.here' r rfl)
      · exact IsiPair.list_tuple g rfl (p.here r rfl)
      · exact IsiPair.list_str g rfl (p.here r rfl)

theorem sub_sound {v u : Val} {v' u' : Value} {value slice : Expr} {Q : Value → Shared → Prop} (r : HRel B μ σ s.heap) (hv : VRel μ v v') (hu : VRel μ u u') (p : Post B X VRel μ s Q (Res.opt (subV σ v u) σ))
    (hs : subscripted slice false v' u' = operate [v', u'] (getItem v' u')) : wpAny (model prog w) A (PyProof.Rows.subscriptTail value slice v' u') Q E s := by
  cases q : subV σ v u with
  | none => rw [q] at p; exact p.elim
  | some x =>
    rw [q] at p
    unfold subV at q
    split at q
    · rename_i x' k
      obtain ⟨l, t, rfl⟩ := hv; obtain ⟨t', rfl⟩ := hu
      simp only [Option.bind_eq_some_iff, Option.map_eq_some_iff] at q
      obtain ⟨j, hj, c, hc, rfl⟩ := q
      obtain ⟨i1, i2, i3, i4⟩ := idx_seq hj
      have l' : x'.length ≤ 1048576 := l
      refine PyProof.Rows.tail_any (T := "str") (typeIs_str _ _ _) F.slot_str_getitem.lookup (P.getItem_str (by simp; omega) (c := c) ?_ (p.here r ⟨by simp [lim], _, rfl⟩)) hs
      rw [strLen, i1]; simpa using hc
    · rename_i i k
      obtain ⟨a, ea, rfl⟩ := hv; obtain ⟨t', rfl⟩ := hu
      simp only [Option.bind_eq_some_iff] at q
      obtain ⟨⟨kk, xs⟩, hz, j, hj, hx⟩ := q
      obtain ⟨i1, i2, i3, i4⟩ := idx_seq hj
      obtain ⟨l, ys, m, hy, g⟩ := r.seq ea hz
      simp only at hx hj i1 i2 i3 i4
      obtain ⟨y, e1, e2⟩ := hy.get hx
      have l' : xs.length ≤ 1048576 := l
      have ll := hy.length
      cases kk
      · refine PyProof.Rows.tail_any (T := "tuple") ⟨_, g, rfl⟩ F.slot_tuple_getitem.lookup (P.getItem_tuple g (by omega) (by omega) (k := j) (by simpa [ll] using i1) (by simpa using e1) (p.here' r e2)) hs
      · have hl : s.heap.IsList a ys.toArray := isList_of g
        by_cases h0 : 0 ≤ k
        · have : j = k.toNat := by rw [seqIndex_of h0 i4] at i1; exact (Option.some.inj i1).symm
          subst this
          exact PyProof.Rows.tail_any hl.typeIs slot_list_getitem.lookup (wpAny_getItem_list hl h0 (by omega) (by simpa using e1) (p.here' r e2)) hs
        · have : j = (k + xs.length).toNat := by rw [seqIndex_neg (by omega) (by omega)] at i1; exact (Option.some.inj i1).symm
          subst this
          exact PyProof.Rows.tail_any hl.typeIs slot_list_getitem.lookup (wpAny_getItem_list_neg hl (by omega) (by simp [ll]; omega) (by omega) (by simpa [ll] using e1) (p.here' r e2)) hs
    · cases q

noncomputable def URel (_ : List Addr) (_ _ : Unit) : Prop := True

theorem setItem_exact {l : Addr} {items : Array Value} {m : Nat} {k : Int} {t : Tok} {v : Value} {Q : Unit → Shared → Prop} (ho : s.heap.get? l = some { cls := .type "list", dict := none, data := .seq items m, slots := #[] })
    (h0 : 0 ≤ k) (hfit : k < 2 ^ 63) (hn : k < items.size) (hQ : Q () { s with heap := s.heap.update l (Obj.mapSeq (·.setIfInBounds k.toNat v)) }) : wpAny (model prog w) A (setItem (.ref l) (.int k t) v) Q E s := by
  have hl : s.heap.IsList l items := ⟨_, ho, rfl, m, rfl⟩
  unfold setItem
  try with_reducible refine wpAny_holding ?_
  first | refine wpAny_bind (wpAny_pure ?_) | skip
  refine wpAny_bind (wpAny_sequenceKey hl.typeIs (by decide) ?_)
  refine wpAny_bind (wpAny_callSpecial?_slot (name := Str.ofString "__setitem__") hl.typeIs slot_list_setitem
    (wpAny_call_entry slot_list_setitem hl.typeIs entry_list_setitem ?_ (args_list_setitem _ _ _)))
  show wpAny _ _ (Builtin.List.listSubscript? (.int k t) >>= _) _ _ s
  refine wpAny_bind (wpAny_listSubscript_int (fitsIndex_of h0 hfit) ?_)
  clear hfit
  obtain ⟨j, rfl⟩ := Int.eq_ofNat_of_zero_le h0
  have hj : j < items.size := by omega
  have hx' : items[j]? = some items[j] := Array.getElem?_eq_getElem hj
  show wpAny _ _ ((seqItemAt l j >>= fun r => pure (r.map (j, ·))) >>= _) _ _ s
  refine wpAny_bind (wpAny_bind (wpAny_seqItemAt ho rfl (wpAny_pure ?_)))
  rw [hx']
  show wpAny _ _ (setSeqItemAt l j v >>= _) _ _ s
  refine wpAny_bind (wpAny_setSeqItemAt ho rfl ?_)
  first
    | exact wpAny_bind (wpAny_pure (wpAny_pure ⟨.none, rfl, wpAny_pure hQ⟩))
    | exact wpAny_pure ⟨.none, rfl, wpAny_pure hQ⟩

theorem asub_sound {v u x : Val} {v' u' x' : Value} {Q : Unit → Shared → Prop} (r : HRel B μ σ s.heap) (hv : VRel μ v v') (hu : VRel μ u u') (hx : VRel μ x x') (p : Post B X URel μ s Q (asubV σ v u x)) :
    wpAny (model prog w) A (setItem v' u' x') Q E s := by
  unfold asubV at p
  split at p
  · rename_i i k
    obtain ⟨a, ea, rfl⟩ := hv; obtain ⟨t', rfl⟩ := hu
    split at p
    · rename_i xs hz
      split at p
      · rename_i hj
        obtain ⟨l, ys, m, g, hy⟩ := r.at ea hz
        have l' : xs.length ≤ 1048576 := l
        have ll := hy.length
        refine setItem_exact g hj.1 (by omega) (by simp [ll]; omega) ?_
        refine p.upd (w := ()) r ea hz rfl (fun b y nb e => (Heap.get?_update_other _ _ (Ne.symm nb)).trans e) ⟨by simpa using l, ys.set k.toNat x', m, ?_, hy.set _ hx⟩ trivial
        rw [Heap.get?_update_self _ g rfl]
        simp [Obj.mapSeq]
      · exact p.elim
    · exact p.elim
  · exact p.elim

end
end Mine


-- part MiniTxt
set_option maxRecDepth 100000
set_option linter.unusedVariables false
namespace Mine
open PySem PySem.SeqAt PySem.NumText

theorem num_digits {s : List Nat} (h : isNum s = true) : AllDigits s ∧ s ≠ [] ∧ s.length ≤ 640 := by
  unfold isNum at h
  simp only [Bool.and_eq_true, decide_eq_true_eq, List.all_eq_true] at h
  exact ⟨fun c hc => h.1.2 c hc, fun e => by rw [e] at h; simp at h, h.2⟩

theorem read_num {s : List Nat} (h : isNum s = true) : numTextOf ⟨s.toArray⟩ = s ∧ s.takeWhile (· != 0) = s ∧ (int_private% "readNumeral") 0 10 s = (int_private% "Numeral.value") (decVal s : Nat) := by
  obtain ⟨h1, h2, h3⟩ := num_digits h
  obtain ⟨e1, e2⟩ := numText_signs (x := ⟨s.toArray⟩) fun c hc => .inr (h1 c (by simpa using hc))
  have e1 : numTextOf ⟨s.toArray⟩ = s := e1
  have e2 : numSeenOf ⟨s.toArray⟩ = s := e2
  refine ⟨e1, ?_, ?_⟩
  · have : (numTextOf ⟨s.toArray⟩).takeWhile (· != 0) = s := e2
    rwa [e1] at this
  · have hi := intText_digits (x := ⟨s.toArray⟩) (by simpa using h1) (by simpa using h2) (by simp [Str.length]; omega)
    rcases read0 ⟨s.toArray⟩ (by rw [e2]; exact h3) with ⟨m, a1, _, a3⟩ | ⟨a1, _⟩
    · rw [hi] at a1
      rw [e2] at a3
      rw [a3]
      injection a1 with a1
      rw [← a1]; rfl
    · rw [hi] at a1; cases a1

theorem str_int : typeLookup (.type "str") "__int__" = pure none := by rw [typeLookup_type, builtinLookup_eq_fast]; kernel_rfl
theorem str_index : typeLookup (.type "str") "__index__" = pure none := by rw [typeLookup_type, builtinLookup_eq_fast]; kernel_rfl
theorem str_trunc : typeLookup (.type "str") "__trunc__" = pure none := by rw [typeLookup_type, builtinLookup_eq_fast]; kernel_rfl

set_option maxHeartbeats 4000000 in
theorem from_text {M : Model} {A : Around} {E : Value → Shared → Prop} {st : Shared} {Q : Value → Shared → Prop} {v : Value} {s x : List Nat} (h : isNum s = true) (hx : x = s) (hQ : Q (.int (decVal s : Nat) st.toks) { st with toks := st.toks + 1 }) :
    wpAny M A ((int_private% "intFromText") v x 10) Q E st := by
  subst hx
  revert h hQ; generalize x = s; intro h hQ
  obtain ⟨_, e2, e3⟩ := read_num h
  have h3 := (num_digits h).2.2
  obtain ⟨hp, g, d, tk, os⟩ := st
  have a1 : (s.takeWhile (· != 0)).length ≤ 640 := by rw [e2]; exact h3
  have a2 : ((s.takeWhile (· != 0)).length == s.length) = true := by rw [e2]; exact beq_self_eq_true _
  have a3 : (int_private% "readNumeral") 0 10 (s.takeWhile (· != 0)) = (int_private% "Numeral.value") (decVal s : Nat) := by rw [e2]; exact e3
  clear e2 e3 h3
  wp_delta
  refine wpAny_ite_true (decide_eq_true a1) (wpAny_bind (wpAny_pure ?_))
  dsimp only
  rw [a3]
  exact wpAny_ite_true (decide_eq_true a2) (wpAny_mkInt hQ)

set_option maxHeartbeats 4000000 in
theorem int_text {s : List Nat} {u : Tok} (h : isNum s = true) : Gives (Builtin.«int.__new__» ⟨[.type "int", .str ⟨s.toArray⟩ u], []⟩) (.int (decVal s : Nat)) := .of_wp fun M A E st Q hQ => by
  obtain ⟨hp, g, d, tk, os⟩ := st
  have f1 := F.conv_sub_int
  have f2 := F.madeHere_int
  have f3 := str_int
  have f4 := str_index
  have f5 := str_trunc
  have f6 : typeOf (.str ⟨s.toArray⟩ u) = pure (.type "str") := rfl
  have e1 : (if s.toArray.all (· < 128) then s.toArray.toList else Unicode.numberText s.toArray.toList) = s := (read_num h).1
  repeat (any_goals (first
    | assumption
    | ((with_reducible show wpAny _ _ ((int_private% "intFromText") _ _ _) _ _ _); refine from_text h e1 ?_)
    | wp_step))
  exact ⟨_, rfl, hQ⟩
theorem split_one {c : Nat} : ∀ {l : List Nat}, c ∉ l → splitBy c l = [l]
  | [], _ => rfl
  | a :: l, h => by
    have e : splitBy c (a :: l) = headAdd a (splitBy c l) := if_neg (fun e => h (by rw [e]; exact .head _))
    rw [e, split_one (fun m => h (.tail _ m))]; rfl
theorem split_more {c : Nat} {r : List Nat} : ∀ {l : List Nat}, c ∉ l → splitBy c (l ++ c :: r) = l :: splitBy c r
  | [], _ => if_pos rfl
  | a :: l, h => by
    have e : splitBy c (a :: (l ++ c :: r)) = headAdd a (splitBy c (l ++ c :: r)) := if_neg (fun e => h (by rw [e]; exact .head _))
    show splitBy c (a :: (l ++ c :: r)) = _
    rw [e, split_more (fun m => h (.tail _ m))]; rfl
theorem split_join (c : Nat) : ∀ (p : Str) (ps : List Str), (∀ q ∈ p :: ps, c ∉ q.cps.toList) → (p :: ps).map (·.cps.toList) = splitBy c (Str.join ⟨#[c]⟩ (p :: ps)).cps.toList := by
  intro p ps
  induction ps generalizing p with
  | nil => intro h; show [p.cps.toList] = splitBy c p.cps.toList; rw [split_one (h p (.head _))]
  | cons q ps ih =>
    intro h
    show p.cps.toList :: (q :: ps).map (·.cps.toList) = splitBy c (p ++ ⟨#[c]⟩ ++ Str.join ⟨#[c]⟩ (q :: ps)).cps.toList
    rw [ih q (fun r hr => h r (.tail _ hr))]
    have e : (p ++ ⟨#[c]⟩ ++ Str.join ⟨#[c]⟩ (q :: ps)).cps.toList = p.cps.toList ++ c :: (Str.join ⟨#[c]⟩ (q :: ps)).cps.toList := by
      simp [Str.cps_append]
    rw [e, split_more (h p (.head _))]
theorem split_txt (c : Nat) (x : List Nat) : (Txt.split ⟨x.toArray⟩ ⟨#[c]⟩).map (·.cps.toList) = splitBy c x := by
  have h1 := PySem.StrLaws.split_free ⟨x.toArray⟩ c
  have h2 := PySem.StrLaws.join_split ⟨x.toArray⟩ ⟨#[c]⟩
  have h3 := PyProof.Rows.split_pos ⟨x.toArray⟩ ⟨#[c]⟩
  generalize Txt.split ⟨x.toArray⟩ ⟨#[c]⟩ = l at *
  cases l with
  | nil => simp at h3
  | cons p ps => rw [split_join c p ps h1, h2]
end Mine


-- part MiniVal4
set_option maxRecDepth 4000
set_option linter.unusedVariables false
namespace Mine
open PySem PySem.SeqAt

section
variable {B : Heap} {X : XE} {μ : List Addr} {σ : MH} {s : Shared}
variable {prog : Program} {w : World} {A : Around} {E : Value → Shared → Prop} {n : Nat}

noncomputable def biFn : BI → Value
  | .len => .builtin "len" | .sum => .builtin "sum" | .min => .builtin "min" | .max => .builtin "max" | .all => .builtin "all"
  | .int => .type "int" | .str => .type "str" | .list => .type "list"

theorem intsOf_rel : ∀ {xs : List Val} {ys : List Value} {ns : List Int}, VsRel μ xs ys → intsOf xs = some ns → ns.length = ys.length ∧ ∀ (i : Nat) v, ys[i]? = some v → ∃ t, v = .int (ns.getD i 0) t
  | [], _, _, h, e => by rw [show _ = [] from h]; cases e; exact ⟨rfl, by simp⟩
  | x :: xs, _, ns, ⟨y, ys, e, r, rs⟩, q => by
    subst e
    cases x <;> simp only [intsOf] at q <;> try (cases q)
    simp only [Option.map_eq_some_iff] at q
    obtain ⟨ms, hm, rfl⟩ := q
    obtain ⟨t, rfl⟩ := r
    obtain ⟨h1, h2⟩ := intsOf_rel rs hm
    refine ⟨by simp [h1], fun i v hv => ?_⟩
    cases i with
    | zero => simp at hv; exact ⟨t, by simp [← hv]⟩
    | succ i => simp at hv; obtain ⟨t', ht⟩ := h2 i v hv; exact ⟨t', by simpa using ht⟩

theorem boolsOf_rel : ∀ {xs : List Val} {ys : List Value} {bs : List Bool}, VsRel μ xs ys → boolsOf xs = some bs → bs.length = ys.length ∧ ∀ (i : Nat) v, ys[i]? = some v → v = .bool (bs.getD i true)
  | [], _, _, h, e => by rw [show _ = [] from h]; cases e; exact ⟨rfl, by simp⟩
  | x :: xs, _, ns, ⟨y, ys, e, r, rs⟩, q => by
    subst e
    cases x <;> simp only [boolsOf] at q <;> try (cases q)
    simp only [Option.map_eq_some_iff] at q
    obtain ⟨ms, hm, rfl⟩ := q
    rw [show y = _ from r]
    obtain ⟨h1, h2⟩ := boolsOf_rel rs hm
    refine ⟨by simp [h1], fun i v hv => ?_⟩
    cases i with
    | zero => simp at hv; simp [← hv]
    | succ i => simp at hv; simpa using h2 i v hv

theorem range_all (bs : List Bool) : (List.range bs.length).all (fun i => bs.getD i true) = bs.all id := by
  rw [Bool.eq_iff_iff, List.all_eq_true, List.all_eq_true]
  constructor
  · intro h b hb
    obtain ⟨j, h1, rfl⟩ := List.getElem_of_mem hb
    have := h j (by simpa using h1)
    simpa [List.getD, List.getElem?_eq_getElem h1] using this
  · intro h j hj
    have h1 : j < bs.length := by simpa using hj
    have := h _ (List.getElem_mem h1)
    simpa [List.getD, List.getElem?_eq_getElem h1] using this

theorem listIter_fresh {a : Addr} {ys : List Value} {m : Nat} (g : s.heap.get? a = some (listObj ys m)) : a ≠ s.heap.objs.size := Nat.ne_of_lt (Heap.lt_size g)

theorem listWalk {a : Addr} {ys : List Value} {m : Nat} (g : s.heap.get? a = some (listObj ys m)) : let h₂ := s.heap.push { cls := .type "list_iterator", data := .fields #[.ref a, .int 0 0] }
    h₂.IsListIter s.heap.objs.size a 0 ∧ h₂.IsList a ys.toArray ∧ (∀ b ∈ [s.heap.objs.size, a], b < h₂.objs.size) :=
  ⟨⟨_, Heap.get?_push_size _ rfl, rfl, rfl⟩, isList_of (Heap.get?_push_of_some _ g), fun b hb => by
    have := Heap.lt_size g
    simp only [List.mem_cons, List.not_mem_nil, or_false] at hb
    show b < (s.heap.push _).objs.size
    rw [Heap.size_push]
    rcases hb with rfl | rfl
    · exact Nat.lt_succ_self _
    · exact Nat.lt_succ_of_lt this⟩

theorem keep_wr {h' : Heap} {o : Obj} (k : ∀ b ob, b ∉ [s.heap.objs.size] → (s.heap.push o).get? b = some ob → h'.get? b = some ob) : ∀ b ob, s.heap.get? b = some ob → h'.get? b = some ob := fun b ob e =>
  k b ob (by simp; exact Nat.ne_of_lt (Heap.lt_size e)) (Heap.get?_push_of_some _ e)

theorem bi_sound [Small n] {b : BI} {vs : List Val} {ws : List Value} {Q : Value → Shared → Prop} (ok : AOk n A) (r : HRel B μ σ s.heap) (hv : VsRel μ vs ws) (p : Post B X VRel μ s Q (biV σ b vs)) : wpAny (model prog w) A (call (biFn b) ws) Q E s := by
  cases vs with
  | nil => exact p.elim
  | cons v0 vs =>
    cases vs with
    | nil =>
      cases b with
      | len =>
        cases v0 with
        | str x' =>
          obtain ⟨x, _, rfl, hx, rfl⟩ := hv
          obtain ⟨l, t, rfl⟩ := hx
          have l' : x'.length ≤ 1048576 := l
          refine P.len_str (by rw [strLen]; omega) ?_
          rw [strLen]; exact p.here r ⟨_, rfl⟩
        | ref i =>
          have p : Post B X VRel μ s Q (match seqOf σ i with | some (_, xs) => .ok (.int xs.length) σ | none => .stuck) := p
          obtain ⟨x, _, rfl, hx, rfl⟩ := hv
          obtain ⟨a, ea, rfl⟩ := hx
          split at p
          · rename_i k xs hq
            obtain ⟨l, ys, m, hy, g⟩ := r.seq ea hq
            have l' : xs.length ≤ 1048576 := l
            have ll := hy.length
            cases k
            · refine P.len_tuple g (by simp; omega) ?_
              have : ((ys.toArray.size : Nat) : Int) = (xs.length : Int) := by simp [ll]
              rw [this]; exact p.here r ⟨_, rfl⟩
            · refine Calls.call_len_list (isList_of g) (by simp; omega) ?_
              have : ((ys.toArray.size : Nat) : Int) = (xs.length : Int) := by simp [ll]
              rw [this]; exact p.here r ⟨_, rfl⟩
          · exact p.elim
        | _ => exact p.elim
      | sum =>
        cases v0 with
        | ref i =>
          have p : Post B X VRel μ s Q (match σ[i]? with | some (.list xs) => (match intsOf xs with | some ns => .ok (.int ns.sum) σ | none => .stuck) | _ => .stuck) := p
          obtain ⟨x, _, rfl, hx, rfl⟩ := hv
          obtain ⟨a, ea, rfl⟩ := hx
          split at p
          · rename_i xs hq
            split at p
            · rename_i ns hn
              obtain ⟨l, ys, m, g, hy⟩ := r.at ea hq
              obtain ⟨n1, n2⟩ := intsOf_rel hy hn
              obtain ⟨w1, w2, w3⟩ := listWalk g
              refine call_sum_walkG (wpAny_pyIter_list (isList_of g) ⟨_, _, _, _, _, _, fun i => ns.getD i 0, rfl, Walks.list (A := A.in1) ok.handled _ a (listIter_fresh g) ys.toArray, ⟨w1, w2⟩, w3, fun i v hi => ?_, fun h' tk t' k => ?_⟩)
              · obtain ⟨t, ht⟩ := n2 i v (by simpa using hi); exact ⟨t, ht⟩
              · rw [PyProof.Rows.preSum_getD, List.take_of_length_le (by simp [n1])]
                exact Post.grow (s := s) r p (keep_wr (s := s) k) ⟨_, rfl⟩
            · exact p.elim
          · exact p.elim
        | _ => exact p.elim
      | all =>
        cases v0 with
        | ref i =>
          have p : Post B X VRel μ s Q (match σ[i]? with | some (.list xs) => (match boolsOf xs with | some bs => .ok (.bool (bs.all id)) σ | none => .stuck) | _ => .stuck) := p
          obtain ⟨x, _, rfl, hx, rfl⟩ := hv
          obtain ⟨a, ea, rfl⟩ := hx
          split at p
          · rename_i xs hq
            split at p
            · rename_i bs hn
              obtain ⟨l, ys, m, g, hy⟩ := r.at ea hq
              obtain ⟨n1, n2⟩ := boolsOf_rel hy hn
              obtain ⟨w1, w2, w3⟩ := listWalk g
              refine call_all_walk (wpAny_pyIter_list (isList_of g) ⟨_, _, _, _, _, _, fun i => bs.getD i true, rfl, Walks.list (A := A.in1) ok.handled _ a (listIter_fresh g) ys.toArray, ⟨w1, w2⟩, fun i v s' Q' E' hi hQ => ?_, fun h' tk k => ?_⟩)
              · rw [n2 i v (by simpa using hi)]; exact wpAny_truthy_bool hQ
              · have : ys.toArray.size = bs.length := by simp [n1]
                rw [this, range_all]
                exact Post.grow (s := s) r p (keep_wr (s := s) k) rfl
            · exact p.elim
          · exact p.elim
        | _ => exact p.elim
      | int =>
        cases v0 with
        | bool b =>
          obtain ⟨x, _, rfl, hx, rfl⟩ := hv
          rw [show x = _ from hx]
          exact call_int_bool (p.here r ⟨_, rfl⟩)
        | str x =>
          obtain ⟨y, _, rfl, hy, rfl⟩ := hv
          obtain ⟨l, t, rfl⟩ := hy
          have p : Post B X VRel μ s Q (if isNum x then .ok (.int (decVal x)) σ else .stuck) := p
          split at p
          · rename_i hn
            exact call_int_1 (int_text hn).meets (show (Made.int (decVal x : Nat)).post _ s from ⟨rfl, p.here r ⟨_, rfl⟩⟩)
          · exact p.elim
        | _ => exact p.elim
      | list =>
        cases v0 with
        | ref i =>
          have p : Post B X VRel μ s Q (match σ[i]? with | some (.list xs) => newList xs σ | _ => .stuck) := p
          obtain ⟨x, _, rfl, hx, rfl⟩ := hv
          obtain ⟨a, ea, rfl⟩ := hx
          split at p
          · rename_i xs hq
            obtain ⟨l, ys, m, g, hy⟩ := r.at ea hq
            have l' : xs.length ≤ 1048576 := l
            have ll := hy.length
            refine call_list_seq a (.inl rfl) g rfl rfl (fun h' c' k e => ?_) (by simp [ll]; show _ ≤ 2 ^ 24; omega)
            exact p.newList r k e hy
          · exact p.elim
        | _ => exact p.elim
      | _ => exact p.elim
    | cons v1 vs =>
      cases vs with
      | cons => exact p.elim
      | nil =>
        cases b with
        | min =>
          cases v0 with
          | int a =>
            cases v1 with
            | int c =>
              have p : Post B X VRel μ s Q (.ok (.int (if c < a then c else a)) σ) := p
              obtain ⟨x, _, rfl, ⟨t, rfl⟩, y, _, rfl, ⟨u, rfl⟩, rfl⟩ := hv
              refine min_two_ints ok.handled fun h' tk k => ?_
              split <;> rename_i hc
              · rw [if_pos hc] at p; exact p.grow r k ⟨_, rfl⟩
              · rw [if_neg hc] at p; exact p.grow r k ⟨_, rfl⟩
            | _ => exact p.elim
          | _ => exact p.elim
        | max =>
          cases v0 with
          | int a =>
            cases v1 with
            | int c =>
              have p : Post B X VRel μ s Q (.ok (.int (if c > a then c else a)) σ) := p
              obtain ⟨x, _, rfl, ⟨t, rfl⟩, y, _, rfl, ⟨u, rfl⟩, rfl⟩ := hv
              refine max_two_ints ok.handled fun h' tk k => ?_
              split <;> rename_i hc
              · rw [if_pos hc] at p; exact p.grow r k ⟨_, rfl⟩
              · rw [if_neg hc] at p; exact p.grow r k ⟨_, rfl⟩
            | _ => exact p.elim
          | _ => exact p.elim
        | _ => exact p.elim

end
end Mine


-- part MiniVal5
set_option maxRecDepth 4000
set_option linter.unusedVariables false
namespace Mine
open PySem PySem.SeqAt

section
variable {B : Heap} {X : XE} {μ : List Addr} {σ : MH} {s : Shared}
variable {prog : Program} {w : World} {A : Around} {E : Value → Shared → Prop} {n : Nat}

/-- the method's built-in -/
noncomputable def meFn (m : Me) : String := match m with
  | .append => "list.append"
  | .split => "str.split"

theorem upd_keep {h : Heap} {a : Addr} {f : Obj → Obj} : ∀ b x, b ≠ a → h.get? b = some x → (h.update a f).get? b = some x := fun _ _ nb e => (Heap.get?_update_other _ _ (Ne.symm nb)).trans e

/-- a list of ours turned by a function on its items -/
theorem Post.updList {α β : Type} {V : List Addr → α → β → Prop} {Q : β → Shared → Prop} {v : α} {w : β} {i : Nat} {a : Addr} {xs xs' : List Val} {ys ys' : List Value} {m : Nat} {f : Array Value → Array Value} {tk : Nat}
    (r : HRel B μ σ s.heap) (p : Post B X V μ s Q (.ok v (σ.set i (.list xs')))) (e : μ[i]? = some a) (q : σ[i]? = some (.list xs)) (g : s.heap.get? a = some (listObj ys m)) (hf : f ys.toArray = ys'.toArray)
    (hl : xs'.length ≤ lim) (hy : VsRel μ xs' ys') (hv : V μ v w) : Q w { s with heap := s.heap.update a (Obj.mapSeq f), toks := tk } := by
  refine p.upd r e q rfl upd_keep ⟨hl, ys', if (f ys.toArray).size == ys.toArray.size then m else m + 1, ?_, hy⟩ hv
  rw [Heap.get?_update_self _ g rfl]
  simp only [Obj.mapSeq, hf]

theorem onL_elim {Q : Value → Shared → Prop} {v : Val} {v' : Value} {f : Nat → List Val → Res Val} (r : HRel B μ σ s.heap) (hv : VRel μ v v') (p : Post B X VRel μ s Q (onL σ v f)) :
    ∃ i a xs ys k, v' = .ref a ∧ μ[i]? = some a ∧ σ[i]? = some (.list xs) ∧ xs.length ≤ 1048576 ∧ s.heap.get? a = some (listObj ys k) ∧ VsRel μ xs ys ∧ ys.length = xs.length ∧ Post B X VRel μ s Q (f i xs) := by
  cases v with
  | ref i =>
    obtain ⟨a, ea, rfl⟩ := hv
    cases q : σ[i]? with
    | none => simp only [onL, q] at p; exact p.elim
    | some o =>
      cases o with
      | list xs =>
        obtain ⟨l, ys, k, g, hys⟩ := r.at ea q
        simp only [onL, q] at p
        exact ⟨i, a, xs, ys, k, rfl, ea, q, l, g, hys, hys.length, p⟩
      | _ => simp only [onL, q] at p; exact p.elim
  | _ => exact p.elim
theorem arg1_elim {Q : Value → Shared → Prop} {vs : List Val} {ws : List Value} {f : Val → Res Val} (hvs : VsRel μ vs ws) (p : Post B X VRel μ s Q (arg1 vs f)) : ∃ x y, ws = [y] ∧ VRel μ x y ∧ Post B X VRel μ s Q (f x) := by
  cases vs with
  | nil => exact p.elim
  | cons x r =>
    cases r with
    | nil => obtain ⟨y, _, rfl, hy, rfl⟩ := hvs; exact ⟨x, y, rfl, hy, p⟩
    | cons => exact p.elim
section
variable {v : Val} {vs : List Val} {v' : Value} {ws : List Value} {Q : Value → Shared → Prop}
theorem app_sound (r : HRel B μ σ s.heap) (hv : VRel μ v v') (hvs : VsRel μ vs ws) (p : Post B X VRel μ s Q (meApp σ v vs)) : wpAny (model prog w) A (call (.builtin "list.append") (v' :: ws)) Q E s := by
  obtain ⟨i, a, xs, ys, k, rfl, ea, hq, l, g, hys, ll, p⟩ := onL_elim r hv p
  obtain ⟨x, y, rfl, hy, p⟩ := arg1_elim hvs p
  split at p
  · rename_i hl
    have lm : lim = 1048576 := rfl
    refine call_meets F.slot_list_append ⟨_, g, rfl⟩ F.entry_list_append (F.args_list_append_2 _ _) (list_append a ys.toArray k y (by simp [ll]; show _ ≤ 2 ^ 24; omega)) ⟨g, ?_⟩
    show Q _ { s with heap := s.heap.update a _, toks := s.toks }
    exact p.updList (xs' := xs ++ [x]) (ys' := ys ++ [y]) r ea hq g (by simp) (by simp; omega) (hys.append ⟨y, [], rfl, hy, rfl⟩) rfl
  · exact p.elim
theorem onS_elim {Q : Value → Shared → Prop} {v : Val} {y : Value} {f : List Nat → Res Val} (hv : VRel μ v y) (p : Post B X VRel μ s Q (onS v f)) : ∃ x t, y = .str ⟨x.toArray⟩ t ∧ x.length ≤ 1048576 ∧ Post B X VRel μ s Q (f x) := by
  cases v with
  | str k => obtain ⟨l, t, rfl⟩ := hv; exact ⟨k, t, rfl, l, p⟩
  | _ => exact p.elim
theorem onC_elim {Q : Value → Shared → Prop} {x : List Nat} {f : Nat → Res Val} (p : Post B X VRel μ s Q (onC x f)) : ∃ c, x = [c] ∧ Post B X VRel μ s Q (f c) := by
  cases x with
  | nil => exact p.elim
  | cons c r =>
    cases r with
    | nil => exact ⟨c, rfl, p⟩
    | cons => exact p.elim
theorem split_len : ∀ (c : Nat) (x : List Nat) (w : List Nat), w ∈ splitBy c x → w.length ≤ x.length
  | c, [], w, h => by rw [List.mem_singleton.mp h]; exact Nat.le_refl _
  | c, a :: x, w, h => by
    by_cases e : a = c
    · rw [show splitBy c (a :: x) = [] :: splitBy c x from if_pos e] at h
      rcases List.mem_cons.mp h with rfl | h
      · exact Nat.zero_le _
      · exact Nat.le_succ_of_le (split_len c x w h)
    · rw [show splitBy c (a :: x) = headAdd a (splitBy c x) from if_neg e] at h
      have ih := split_len c x
      cases q : splitBy c x with
      | nil => rw [q] at h; rw [List.mem_singleton.mp h]; exact Nat.succ_le_succ (Nat.zero_le _)
      | cons u us =>
        rw [q] at h
        rcases List.mem_cons.mp h with rfl | h
        · exact Nat.succ_le_succ (ih u (by rw [q]; exact .head _))
        · exact Nat.le_succ_of_le (ih w (by rw [q]; exact .tail _ h))
theorem strs_rel : ∀ (l : List (Str × Tok)), (∀ q ∈ l, q.1.length ≤ 1048576) → VsRel μ ((l.map (·.1.cps.toList)).map .str) (strValues l)
  | [], _ => rfl
  | q :: l, h => ⟨_, _, rfl, ⟨by rw [Array.length_toList]; exact h q (.head _), q.2, rfl⟩, strs_rel l fun x hx => h x (.tail _ hx)⟩
theorem split_sound (r : HRel B μ σ s.heap) (hv : VRel μ v v') (hvs : VsRel μ vs ws) (p : Post B X VRel μ s Q (meSplit σ v vs)) : wpAny (model prog w) A (call (.builtin "str.split") (v' :: ws)) Q E s := by
  obtain ⟨x, t, rfl, lx, p⟩ := onS_elim hv p
  obtain ⟨u, y, rfl, hy, p⟩ := arg1_elim hvs p
  obtain ⟨sp, t2, rfl, _, p⟩ := onS_elim hy p
  obtain ⟨c, rfl, p⟩ := onC_elim p
  have hx : (⟨x.toArray⟩ : Str).length ≤ 1048576 := by rw [strLen]; exact lx
  have fin : ∀ (l : List (Str × Tok)) (tk : Nat), l.map (·.1) = Txt.split ⟨x.toArray⟩ ⟨[c].toArray⟩ → Q (.ref s.heap.objs.size) { s with toks := tk, heap := s.heap.push { cls := .type "list", data := .seq (strValues l).toArray } } := fun l tk hl => by
    have e := split_txt c x
    have e2 : l.map (·.1.cps.toList) = splitBy c x := by rw [← e, ← hl, List.map_map]; rfl
    refine Post.newList (n := 0) r p (push_keep _ _) (Heap.get?_push_size _ rfl) ?_
    rw [← e2]
    refine strs_rel l fun q hq => ?_
    have := split_len c x q.1.cps.toList (by rw [← e2]; exact List.mem_map_of_mem hq)
    rw [Array.length_toList] at this
    exact Nat.le_trans this lx
  have hs : 1048576 ≤ sizeLine := by decide
  have hn : (PySem.Builtin.Str.partsBetween ⟨x.toArray⟩ (PySem.Builtin.Str.occurrences ⟨x.toArray⟩ ⟨[c].toArray⟩ 0 (⟨x.toArray⟩ : Str).length ((⟨x.toArray⟩ : Str).length + 1)) (⟨[c].toArray⟩ : Str).length).length ≤ (⟨x.toArray⟩ : Str).length + 2 := by
    rw [PyProof.Rows.len_partsBetween]
    have := StrLaws.occ_length_le ⟨x.toArray⟩ ⟨[c].toArray⟩ 0 (⟨x.toArray⟩ : Str).length ((⟨x.toArray⟩ : Str).length + 1)
    omega
  cases h1 : (decide ((⟨x.toArray⟩ : Str).length < (⟨[c].toArray⟩ : Str).length) || decide (Builtin.Str.strKind ⟨x.toArray⟩ < Builtin.Str.strKind ⟨[c].toArray⟩))
  · cases hf : (Builtin.Str.occurrences ⟨x.toArray⟩ ⟨[c].toArray⟩ 0 (⟨x.toArray⟩ : Str).length ((⟨x.toArray⟩ : Str).length + 1)).isEmpty
    · refine call_meets F.slot_str_split (typeIs_str _ _ _) F.entry_str_split (F.args_str_split_2 _ _) (meets_str_split_sep _ _ _ _ h1 rfl hf (Nat.le_trans hx hs) (Nat.le_trans hn (Nat.le_trans (Nat.add_le_add_right hx 2) (by decide)))) ?_
      show Q _ { s with toks := _, heap := s.heap.push { cls := .type "list", data := .seq (strsFrom s.toks _).toArray } }
      rw [strsFrom_eq]
      exact fin (numbered s.toks _) _ ((numbered_texts _ _).trans ((if_neg (ne_true_of_eq_false h1)).trans (if_neg (ne_true_of_eq_false hf))).symm)
    · exact call_meets F.slot_str_split (typeIs_str _ _ _) F.entry_str_split (F.args_str_split_2 _ _) (meets_str_split_not_found _ _ _ _ h1 rfl hf) (fin [(_, t)] s.toks ((if_neg (ne_true_of_eq_false h1)).trans (if_pos hf)).symm)
  · exact call_meets F.slot_str_split (typeIs_str _ _ _) F.entry_str_split (F.args_str_split_2 _ _) (meets_str_split_cannot_occur _ _ _ _ h1) (fin [(_, t)] s.toks (if_pos h1).symm)
theorem me_sound {m : Me} (ok : AOk n A) (r : HRel B μ σ s.heap) (hv : VRel μ v v') (hvs : VsRel μ vs ws) (p : Post B X VRel μ s Q (meV σ m v vs)) : wpAny (model prog w) A (call (.builtin (meFn m)) (v' :: ws)) Q E s := by
  cases m with
  | append => exact app_sound r hv hvs p
  | split => exact split_sound r hv hvs p
end

end
end Mine


-- part MiniIter
set_option maxRecDepth 4000
set_option linter.unusedVariables false
namespace Mine
open PySem PySem.SeqAt

section
variable {B : Heap} {X : XE} {μ : List Addr} {σ : MH} {s : Shared}
variable {prog : Program} {w : World} {A : Around} {E : Value → Shared → Prop} {n : Nat}

noncomputable def cutOf : Val → Option (Option Int)
  | .none => some none
  | .int i => some (some i)
  | _ => none
theorem cutAt_elim {v : Val} {d m a : Nat} (h : cutAt v d m = some a) : ∃ o : Option Int, cutOf v = some o ∧ a = o.elim d (clipAt m) := by
  unfold cutAt at h
  split at h
  · cases h; exact ⟨none, rfl, rfl⟩
  · refine ⟨some _, rfl, ?_⟩
    unfold clipAt
    split at h <;> cases h <;> simp only [Option.elim] <;> split <;> omega
  · cases h
theorem part_of {v : Val} {v' : Value} {o : Option Int} (hv : VRel μ v v') (h : cutOf v = some o) : IsPart v' o := by
  unfold cutOf at h
  split at h
  · cases h; rw [show v' = _ from hv]; exact .none
  · cases h; obtain ⟨t, rfl⟩ := hv; exact .int _ _
  · cases h

theorem slice_list_sound {i : Nat} {xs : List Val} {v' lo' hi' : Value} {lo hi : Val} {a b : Nat} {value slice : Expr} {Q : Value → Shared → Prop} (r : HRel B μ σ s.heap) (hq : σ[i]? = some (.list xs)) (hv : VRel μ (.ref i) v') (hlo : VRel μ lo lo') (hhi : VRel μ hi hi')
    (ha : cutAt lo 0 xs.length = some a) (hb : cutAt hi xs.length xs.length = some b) (p : Post B X VRel μ s Q (newList ((xs.take b).drop a) σ))
    (hs : ∀ i, subscripted slice false v' i = operate [i, v'] (getItem v' i)) :
    wpAny (model prog w) A (PyProof.Rows.subscriptTail value slice v' (.ref s.heap.objs.size)) Q E { s with heap := s.heap.push { cls := .type "slice", data := .fields #[lo', hi', .none] } } := by
  obtain ⟨ad, ea, rfl⟩ := hv
  obtain ⟨l, ys, m, g, hys⟩ := r.at ea hq
  have l' : xs.length ≤ 1048576 := l
  have ll := hys.length
  obtain ⟨o1, c1, d1⟩ := cutAt_elim ha
  obtain ⟨o2, c2, d2⟩ := cutAt_elim hb
  have g' := Heap.get?_push_of_some (o := { cls := .type "slice", data := .fields #[lo', hi', .none] }) g
  have hl := isList_of g'
  refine PyProof.Rows.tail_any hl.typeIs slot_list_getitem.lookup (wpAny_getItem_list_slice (lo := o1) (hi := o2) (st := none) hl ⟨_, Heap.get?_push_size _ rfl, rfl, rfl⟩ (part_of hlo c1) (part_of hhi c2) .none (by simp) ?_ (by simp [ll]; show _ ≤ 2 ^ 24; omega)) (hs _)
  rw [slicePick_plain]
  have e : ((ys.toArray.toList.drop (o1.elim 0 (clipAt ys.toArray.size))).take (o2.elim ys.toArray.size (clipAt ys.toArray.size) - o1.elim 0 (clipAt ys.toArray.size))).toArray = ((ys.take b).drop a).toArray := by
    simp only [List.size_toArray, ll]
    rw [← d1, ← d2, List.drop_take]
  rw [e]
  exact Post.newList (s := { s with heap := s.heap.push { cls := .type "slice", data := .fields #[lo', hi', .none] }, toks := s.toks }) (n := 0) (r.grow (push_keep _ _)) (p.step (Step.grow (push_keep _ _))) (push_keep _ _) (Heap.get?_push_size _ rfl) ((hys.take _).drop _)

theorem pick_str (x : List Nat) : ∀ (n a : Nat), a + n ≤ x.length → ((List.range n).map fun i => a + i).filterMap (fun i => x[i]?) = (x.drop a).take n
  | 0, a, _ => by simp
  | n + 1, a, h => by
    rw [List.range_succ, List.map_append, List.filterMap_append, pick_str x n a (by omega)]
    have e : x[a + n]? = some x[a + n] := List.getElem?_eq_getElem (by omega)
    rw [List.map_cons, List.map_nil, List.filterMap_cons_some e, List.filterMap_nil, List.take_add_one, List.getElem?_drop, e]; rfl
theorem part_of2 {v : Val} {v' : Value} {o : Option Int} (hv : VRel μ v v') (h : cutOf v = some o) : ∃ l : Option (Int × Tok), v' = partValue l ∧ l.map (·.1) = o := by
  cases v with
  | none => cases h; rw [show v' = _ from hv]; exact ⟨none, rfl, rfl⟩
  | int i => cases h; obtain ⟨t, rfl⟩ := hv; exact ⟨some (i, t), rfl, rfl⟩
  | _ => cases h
theorem idx_plain (lo hi : Option Int) (n : Nat) : Builtin.Str.strSliceIndices lo hi 1 n = (List.range (hi.elim n (clipAt n) - lo.elim 0 (clipAt n))).map fun i => lo.elim 0 (clipAt n) + i := by
  rw [← sliceRange_one]
  unfold Builtin.Str.strSliceIndices
  cases lo <;> cases hi <;> simp only [Option.elim, show (1 : Int) > 0 by decide, if_true, clipAt_cast] <;> rfl
theorem slice_str_sound {x : List Nat} {v' lo' hi' : Value} {lo hi : Val} {a b : Nat} {value slice : Expr} {Q : Value → Shared → Prop} (r : HRel B μ σ s.heap) (hv : VRel μ (.str x) v') (hlo : VRel μ lo lo') (hhi : VRel μ hi hi')
    (ha : cutAt lo 0 x.length = some a) (hb : cutAt hi x.length x.length = some b) (p : Post B X VRel μ s Q (.ok (.str ((x.take b).drop a)) σ))
    (hs : ∀ i, subscripted slice false v' i = operate [i, v'] (getItem v' i)) :
    wpAny (model prog w) A (PyProof.Rows.subscriptTail value slice v' (.ref s.heap.objs.size)) Q E { s with heap := s.heap.push { cls := .type "slice", data := .fields #[lo', hi', .none] } } := by
  obtain ⟨l, t, rfl⟩ := hv
  have l' : x.length ≤ 1048576 := l
  obtain ⟨o1, c1, d1⟩ := cutAt_elim ha
  obtain ⟨o2, c2, d2⟩ := cutAt_elim hb
  obtain ⟨l1, rfl, m1⟩ := part_of2 hlo c1
  obtain ⟨l2, rfl, m2⟩ := part_of2 hhi c2
  have hb' : b ≤ x.length := by rw [d2]; cases o2 with | none => exact Nat.le_refl _ | some i => have := clipAt_cast x.length i; show clipAt x.length i ≤ _; omega
  have e : slicePicked ⟨x.toArray⟩ l1 l2 none = (List.range (b - a)).map fun i => a + i := by
    unfold slicePicked
    rw [m1, m2, strLen]
    show Builtin.Str.strSliceIndices o1 o2 1 x.length = _
    rw [idx_plain, ← d1, ← d2]
  have e2 : (slicePicked ⟨x.toArray⟩ l1 l2 none).filterMap ((⟨x.toArray⟩ : Str).cps[·]?) = (x.take b).drop a := by
    rw [e, List.drop_take]
    by_cases hab : a ≤ b
    · rw [← pick_str x (b - a) a (by omega)]; congr 1; funext i; simp
    · rw [show b - a = 0 by omega]; simp
  have kk := push_keep s.heap { cls := .type "slice", data := .fields #[partValue l1, partValue l2, .none] }
  have r2 := r.grow kk
  have p2 := p.step (tk := s.toks) (Step.grow kk)
  refine PyProof.Rows.tail_any (T := "str") (typeIs_str _ _ _) F.slot_str_getitem.lookup (wpAny_getItem_str_slice (l := l1) (u := l2) (st := none) ⟨_, Heap.get?_push_size _ rfl, rfl, rfl⟩ rfl ?_) (hs _)
  unfold sliceMade
  rw [e2]
  split
  · rename_i hc
    rw [Bool.and_eq_true, beq_iff_eq, beq_iff_eq, e, strLen] at hc
    have h2 := hc.2
    rw [List.length_map, List.length_range] at h2
    have e3 : (x.take b).drop a = x := by
      rw [List.drop_take]
      by_cases hx0 : x.length = 0
      · rw [List.length_eq_zero_iff.mp hx0]; simp
      · rw [show a = 0 by omega, List.drop_zero, List.take_of_length_le (by omega)]
    rw [e3] at p2
    show Q (.str ⟨x.toArray⟩ t) _
    exact p2.here' r2 ⟨l, _, rfl⟩
  · have hl : ((x.take b).drop a).length ≤ 1048576 := by rw [List.length_drop, List.length_take]; omega
    exact ⟨by rw [strLen]; exact Nat.le_trans hl (by decide), p2.here r2 ⟨hl, _, rfl⟩⟩

theorem look_fields {h h' : Heap} {I : Addr} {o : Obj} {vs : Array Value} (k : ∀ o, look h I = some o → look h' I = some o) (e : h.get? I = some o) (d : o.data = .fields vs) : h'.get? I = some o := by
  have nd : ∀ es ep, o.data ≠ .dict es ep := fun es ep q => by rw [d] at q; cases q
  refine get_of_look ?_ nd
  have := k _ (look_of e)
  rwa [nrm_of nd] at this
structure Iter (prog : Program) (w : World) (B : Heap) (μ₀ : List Addr) (xs : List Val) (ck : MH → Bool) (I : Addr) (At : Nat → Heap → Prop) : Prop where
  frame : ∀ i h h', At i h → (∀ o, look h I = some o → look h' I = some o) → At i h'
  alive : ∀ i h, At i h → ∃ o, h.get? I = some o
  again : ∀ i (A : Around) (s : Shared) (Q : Value → Shared → Prop) (E : Value → Shared → Prop), At i s.heap → Q (.ref I) s → wpAny (model prog w) A (pyIter (.ref I)) Q E s
  item : ∀ i x (A : Around) (s : Shared) μ σ (Q : Option Value → Shared → Prop) (E : Value → Shared → Prop), xs[i]? = some x → μ₀ <+: μ → At i s.heap → HRel B μ σ s.heap → ck σ = true →
    (∀ v h' tk, VRel μ x v → At (i + 1) h' → (∀ b o, b ≠ I → s.heap.get? b = some o → h'.get? b = some o) → Q (some v) { s with heap := h', toks := tk }) → wpAny (model prog w) A (pyNext (.ref I)) Q E s
  done : ∀ (A : Around) (s : Shared) μ σ (Q : Option Value → Shared → Prop) (E : Value → Shared → Prop), A.handled = none ∨ ((∀ σ, ck σ = true) ∧ (∃ i, .int i ∈ xs) ∧ HdOk A μ s.heap) → μ₀ <+: μ → At xs.length s.heap → HRel B μ σ s.heap → ck σ = true →
    (∀ h' tk, (∀ b o, b ≠ I → s.heap.get? b = some o → h'.get? b = some o) → Q none { s with heap := h', toks := tk }) → wpAny (model prog w) A (pyNext (.ref I)) Q E s

theorem sameBut_keep {a : Addr} {h h' : Heap} (x : Heap.SameBut a h h') : ∀ b o, b ≠ a → h.get? b = some o → h'.get? b = some o := fun b _ nb e => (x.2 b nb).trans e

theorem iter_list {i : Nat} {a I : Addr} {xs : List Val} {ck : MH → Bool} (ea : μ[i]? = some a) (hck : ∀ σ', ck σ' = true → seqOf σ' i = some (true, xs)) : Iter prog w B μ xs ck I (fun i h => h.IsListIter I a i) where
  frame := fun i h h' x k => let ⟨o, e, c, d⟩ := x; ⟨o, look_fields k e d, c, d⟩
  alive := fun i h x => let ⟨o, e, _⟩ := x; ⟨o, e⟩
  again := fun i A s Q E x q => wpAny_pyIter_listiter x q
  item := fun i x A s μ σ Q E hx hp hat r hc hQ => by
    obtain ⟨l, ys, m, hy, g⟩ := r.seq (getElem?_prefix hp ea) (hck σ hc)
    obtain ⟨y, e1, e2⟩ := hy.get hx
    exact wpAny_pyNext_list_item hat (isList_of g) (by simpa using e1) fun h' x1 x2 => hQ y h' s.toks e2 x1 (sameBut_keep x2)
  done := fun A s μ σ Q E hh hp hat r hc hQ => by
    obtain ⟨l, ys, m, hy, g⟩ := r.seq (getElem?_prefix hp ea) (hck σ hc)
    rcases hh with hh | ⟨hh, _⟩
    case inr => have := hck [] (hh []); simp [seqOf] at this
    exact wpAny_pyNext_list_end hh hat (isList_of g) (by simp [hy.length]) fun h' x1 => hQ h' s.toks x1

theorem iter_str {x : List Nat} {t : Tok} {I : Addr} : Iter prog w B μ (x.map fun c => .str [c]) (fun _ => true) I (fun i h => h.IsStrIter I "str_ascii_iterator" ⟨x.toArray⟩ t i) where
  frame := fun i h h' y k => let ⟨o, e, c, d⟩ := y; ⟨o, look_fields k e d, c, d⟩
  alive := fun i h y => let ⟨o, e, _⟩ := y; ⟨o, e⟩
  again := fun i A s Q E y q => wpAny_pyIter_striter_ascii y q
  item := fun i y A s μ σ Q E hx hp hat r hc hQ => by
    rw [List.getElem?_map, Option.map_eq_some_iff] at hx
    obtain ⟨c, hx, rfl⟩ := hx
    exact wpAny_pyNext_ascii_item hat (by simpa using hx) fun h' x1 x2 => hQ _ h' _ ⟨Nat.le_of_ble_eq_true rfl, _, rfl⟩ x1 (sameBut_keep x2)
  done := fun A s μ σ Q E hh hp hat r hc hQ => by
    rw [List.length_map] at hat
    rcases hh with hh | ⟨_, ⟨i, hh⟩, _⟩
    case inr => obtain ⟨c, _, hc⟩ := List.mem_map.mp hh; cases hc
    exact wpAny_pyNext_ascii_end hh hat (by simp) fun h' x1 => hQ h' s.toks x1

theorem rangeVals_get (a : Int) : ∀ (n i : Nat) (x : Val), (rangeVals a n)[i]? = some x → i < n ∧ x = .int (a + i)
  | 0, i, x, h => by simp [rangeVals] at h
  | n + 1, 0, x, h => by simp [rangeVals] at h; exact ⟨Nat.succ_pos _, by simp [← h]⟩
  | n + 1, i + 1, x, h => by
    simp only [rangeVals, List.getElem?_cons_succ] at h
    obtain ⟨h1, h2⟩ := rangeVals_get (a + 1) n i x h
    exact ⟨by omega, by rw [h2]; congr 1; omega⟩
theorem rangeVals_length (a : Int) : ∀ n, (rangeVals a n).length = n
  | 0 => rfl
  | n + 1 => by simp [rangeVals, rangeVals_length (a + 1) n]

theorem iter_range {a : Int} {n : Nat} {I : Addr} : Iter prog w B μ (rangeVals a n) (fun _ => true) I (fun i h => IsRangeIter h I (a + (i : Nat)) ((n : Int) - (i : Nat)) 1) where
  frame := fun i h h' x k => look_fields k x rfl
  alive := fun i h x => ⟨_, x⟩
  again := fun i A s Q E x q => wpAny_pyIter_rangeiter x q
  item := fun i x A s μ σ Q E hx hp hat r hc hQ => by
    obtain ⟨h1, rfl⟩ := rangeVals_get a n i x hx
    refine wpAny_pyNext_range_item hat (by omega) fun h' x1 x2 => hQ _ h' _ ⟨_, rfl⟩ ?_ (sameBut_keep x2)
    have e1 : a + ((i + 1 : Nat) : Int) = a + i + 1 := by omega
    have e2 : (n : Int) - ((i + 1 : Nat) : Int) = n - i - 1 := by omega
    rw [e1, e2]; exact x1
  done := fun A s μ σ Q E hh hp hat r hc hQ => by
    rw [rangeVals_length] at hat
    have hd : HdOk A μ s.heap := hh.elim HdOk.none fun z => z.2.2
    exact pyNext_range_end_h hd hat (by omega) fun h' x1 => hQ h' s.toks x1

end
end Mine


-- part MiniChk
set_option maxRecDepth 4000
set_option linter.unusedVariables false
namespace Mine
open PySem

inductive GI where
  | fn (f : Nat) | const (v : Val) | ty (t : String) | bi (b : String) | cls (c : Nat) | tab (f : Nat) | meth (f : Nat) | kinds
  deriving DecidableEq
noncomputable abbrev GMap := List (Str × GI)

noncomputable def nameOk (x : Str) : Bool := (x == ("__debug__" : Str)) == false && (x == ("__classdict__" : Str)) == false
noncomputable def globK (g : GMap) (sc : Scope) (x : Str) (i : GI) : Bool := sc.names.lookup x == some .globalImplicit && nameOk x && g.lookup x == some i
noncomputable def varK (sc : Scope) (sm : List (Str × Nat)) (x : Str) (i : Nat) : Bool := isVar (sc.names.lookup x) && nameOk x && sm.lookup x == some i

noncomputable def tabNm : Str := "Table"
noncomputable def methKey (nm : Str) : Str := ("Table." : Str) ++ nm
noncomputable def isTab : Option GI → Bool
  | some (.tab _) => true
  | _ => false
noncomputable def constIs : Val → Const → Bool
  | .none, .none => true
  | .bool b, .bool c => b == c
  | .int i, .int j => i == j
  | .str s, .str x => decide (x = ⟨s.toArray⟩) && decide (s.length ≤ lim)
  | _, _ => false

noncomputable def isStar : Expr → Bool
  | .Starred .. => true
  | _ => false
noncomputable def isSlice : Expr → Bool
  | .Slice .. => true
  | _ => false
noncomputable def baseOk : Expr → Bool
  | .Call (.Name _ _) [] [] _ => false
  | _ => true

noncomputable def relabelS (inner outer : Scope) : Scope := { inner with names := inner.names.map fun (n, k) => if (k == .free && outer.kind == .function && outer.names.lookup n == some .cell) then (n, .cell) else (n, k) }

noncomputable def compScOk (inner outer : Scope) (x : Str) : Bool :=
  inner.kind == .function && inner.names.lookup x == some .local &&
  inner.names.all fun p => p.2 != .cell && (p.2 != .local || inner.names.lookup p.1 == some .local) && (p.2 != .free || (outer.names.lookup p.1 == some .cell || outer.names.lookup p.1 == some .free))

noncomputable def compScOk2 (inner outer : Scope) : Bool :=
  inner.kind == .function &&
  inner.names.all fun p => p.2 != .cell && (p.2 != .local || inner.names.lookup p.1 == some .local) && (p.2 != .free || (outer.names.lookup p.1 == some .cell || outer.names.lookup p.1 == some .free))
noncomputable def isTupleT : Expr → Bool
  | .Tuple .. => true
  | _ => false
noncomputable def biGI : BI → GI
  | .len => .bi "len" | .sum => .bi "sum" | .min => .bi "min" | .max => .bi "max" | .all => .bi "all"
  | .int => .ty "int" | .str => .ty "str" | .list => .ty "list"
noncomputable def meName : Me → Str
  | .append => "append"
  | .split => "split"

noncomputable def isTT : MExpr → Bool
  | .const (.bool true) => true
  | _ => false
noncomputable def isNC : MExpr → Bool
  | .const .none => true
  | _ => false
theorem isTT_eq {m : MExpr} (h : isTT m = true) : m = .const (.bool true) := by
  unfold isTT at h; split at h
  · rfl
  · cases h
theorem isNC_eq {m : MExpr} (h : isNC m = true) : m = .const .none := by
  unfold isNC at h; split at h
  · rfl
  · cases h

structure Chk where
  E : Expr → Bool
  Es : List Expr → Bool
  I : Expr → Bool
noncomputable def ckE (f : Expr → Bool) : Chk := ⟨f, fun _ => false, fun _ => false⟩
noncomputable def ckS (f : List Expr → Bool) : Chk := ⟨fun _ => false, f, fun _ => false⟩
noncomputable def ckI (f : Expr → Bool) : Chk := ⟨fun _ => false, fun _ => false, f⟩

/-- an expression as the checker sees it -/
inductive EV where
  | const (c : Const) | name (x : Str) | bin (l : Expr) (o : Operator) (r : Expr) | un (o : UnaryOp) (x : Expr) | bool (o : BoolOp) (es : List Expr) (p : Pos)
  | cmp (l : Expr) (os : List CmpOp) (rs : List Expr) | call (f : Expr) (es : List Expr) (p : Pos) | attr (o : Expr) (n : Str) (p : Pos) | sub (l r : Expr)
  | slice (x y z : Option Expr) | comp (e : Expr) (gs : List Comprehension) (sc : Scope) | list (l : List Expr) | tup (l : List Expr) | other
noncomputable def eview : Expr → EV
  | .Constant c _ _ => .const c
  | .Name x _ => .name x
  | .BinOp l o r _ => .bin l o r
  | .UnaryOp o x _ => .un o x
  | .BoolOp o es p => .bool o es p
  | .Compare l os rs _ => .cmp l os rs
  | .Call f es [] p => .call f es p
  | .Attribute o n p => .attr o n p
  | .Subscript l r _ => .sub l r
  | .Slice x y z _ => .slice x y z
  | .ListComp e gs sc _ => .comp e gs sc
  | .List l _ => .list l
  | .Tuple l _ _ => .tup l
  | _ => .other
inductive EVOk : Expr → EV → Prop
  | const (c n p) : EVOk (.Constant c n p) (.const c)
  | name (x p) : EVOk (.Name x p) (.name x)
  | bin (l o r p) : EVOk (.BinOp l o r p) (.bin l o r)
  | un (o x p) : EVOk (.UnaryOp o x p) (.un o x)
  | bool (o es p) : EVOk (.BoolOp o es p) (.bool o es p)
  | cmp (l os rs p) : EVOk (.Compare l os rs p) (.cmp l os rs)
  | call (f es p) : EVOk (.Call f es [] p) (.call f es p)
  | attr (o n p) : EVOk (.Attribute o n p) (.attr o n p)
  | sub (l r p) : EVOk (.Subscript l r p) (.sub l r)
  | slice (x y z p) : EVOk (.Slice x y z p) (.slice x y z)
  | comp (e gs sc p) : EVOk (.ListComp e gs sc p) (.comp e gs sc)
  | list (l p) : EVOk (.List l p) (.list l)
  | tup (l c p) : EVOk (.Tuple l c p) (.tup l)
  | other (e) : EVOk e .other
theorem eview_ok (e : Expr) : EVOk e (eview e) := by
  cases e with
  | Call f es kw p =>
    cases kw with
    | nil => exact .call f es p
    | cons => exact .other _
  | _ => first | exact .other _ | constructor
noncomputable def onConst (k : Const → Bool) (e : Expr) : Bool := match eview e with | .const c => k c | _ => false
theorem onConst_elim {k : Const → Bool} {e : Expr} (h : onConst k e = true) : ∃ c n p, e = .Constant c n p ∧ k c = true := by
  have o := eview_ok e
  unfold onConst at h
  generalize eview e = x at o h
  cases o <;> first | exact (Bool.false_ne_true h).elim | exact ⟨_, _, _, rfl, h⟩
noncomputable def onName (k : Str → Bool) (e : Expr) : Bool := match eview e with | .name x => k x | _ => false
theorem onName_elim {k : Str → Bool} {e : Expr} (h : onName k e = true) : ∃ x p, e = .Name x p ∧ k x = true := by
  have o := eview_ok e
  unfold onName at h
  generalize eview e = x at o h
  cases o <;> first | exact (Bool.false_ne_true h).elim | exact ⟨_, _, rfl, h⟩
noncomputable def onBin (k : Expr → Operator → Expr → Bool) (e : Expr) : Bool := match eview e with | .bin l o r => k l o r | _ => false
theorem onBin_elim {k : Expr → Operator → Expr → Bool} {e : Expr} (h : onBin k e = true) : ∃ l o r p, e = .BinOp l o r p ∧ k l o r = true := by
  have o := eview_ok e
  unfold onBin at h
  generalize eview e = x at o h
  cases o <;> first | exact (Bool.false_ne_true h).elim | exact ⟨_, _, _, _, rfl, h⟩
noncomputable def onUn (k : UnaryOp → Expr → Bool) (e : Expr) : Bool := match eview e with | .un o x => k o x | _ => false
theorem onUn_elim {k : UnaryOp → Expr → Bool} {e : Expr} (h : onUn k e = true) : ∃ o x p, e = .UnaryOp o x p ∧ k o x = true := by
  have o := eview_ok e
  unfold onUn at h
  generalize eview e = x at o h
  cases o <;> first | exact (Bool.false_ne_true h).elim | exact ⟨_, _, _, rfl, h⟩
noncomputable def onBool (k : BoolOp → List Expr → Pos → Bool) (e : Expr) : Bool := match eview e with | .bool o es p => k o es p | _ => false
theorem onBool_elim {k : BoolOp → List Expr → Pos → Bool} {e : Expr} (h : onBool k e = true) : ∃ o es p, e = .BoolOp o es p ∧ k o es p = true := by
  have o := eview_ok e
  unfold onBool at h
  generalize eview e = x at o h
  cases o <;> first | exact (Bool.false_ne_true h).elim | exact ⟨_, _, _, rfl, h⟩
noncomputable def onCmp (k : Expr → List CmpOp → List Expr → Bool) (e : Expr) : Bool := match eview e with | .cmp l os rs => k l os rs | _ => false
theorem onCmp_elim {k : Expr → List CmpOp → List Expr → Bool} {e : Expr} (h : onCmp k e = true) : ∃ l os rs p, e = .Compare l os rs p ∧ k l os rs = true := by
  have o := eview_ok e
  unfold onCmp at h
  generalize eview e = x at o h
  cases o <;> first | exact (Bool.false_ne_true h).elim | exact ⟨_, _, _, _, rfl, h⟩
noncomputable def onCallX (k : Expr → List Expr → Pos → Bool) (e : Expr) : Bool := match eview e with | .call f es p => k f es p | _ => false
theorem onCallX_elim {k : Expr → List Expr → Pos → Bool} {e : Expr} (h : onCallX k e = true) : ∃ f es p, e = .Call f es [] p ∧ k f es p = true := by
  have o := eview_ok e
  unfold onCallX at h
  generalize eview e = x at o h
  cases o <;> first | exact (Bool.false_ne_true h).elim | exact ⟨_, _, _, rfl, h⟩
noncomputable def onCall (k : Str → List Expr → Bool) : Expr → Bool := onCallX fun f es _ => onName (fun x => k x es) f
theorem onCall_elim {k : Str → List Expr → Bool} {e : Expr} (h : onCall k e = true) : ∃ x p es q, e = .Call (.Name x p) es [] q ∧ k x es = true := by
  obtain ⟨f, es, q, rfl, h2⟩ := onCallX_elim h
  obtain ⟨x, p, rfl, h3⟩ := onName_elim h2
  exact ⟨x, p, es, q, rfl, h3⟩
noncomputable def onAttr (k : Expr → Str → Pos → Bool) (e : Expr) : Bool := match eview e with | .attr o n p => k o n p | _ => false
theorem onAttr_elim {k : Expr → Str → Pos → Bool} {e : Expr} (h : onAttr k e = true) : ∃ o n p, e = .Attribute o n p ∧ k o n p = true := by
  have o := eview_ok e
  unfold onAttr at h
  generalize eview e = x at o h
  cases o <;> first | exact (Bool.false_ne_true h).elim | exact ⟨_, _, _, rfl, h⟩
noncomputable def onSub (k : Expr → Expr → Bool) (e : Expr) : Bool := match eview e with | .sub l r => k l r | _ => false
theorem onSub_elim {k : Expr → Expr → Bool} {e : Expr} (h : onSub k e = true) : ∃ l r p, e = .Subscript l r p ∧ k l r = true := by
  have o := eview_ok e
  unfold onSub at h
  generalize eview e = x at o h
  cases o <;> first | exact (Bool.false_ne_true h).elim | exact ⟨_, _, _, rfl, h⟩
noncomputable def onSlice (k : Option Expr → Option Expr → Option Expr → Bool) (e : Expr) : Bool := match eview e with | .slice x y z => k x y z | _ => false
theorem onSlice_elim {k : Option Expr → Option Expr → Option Expr → Bool} {e : Expr} (h : onSlice k e = true) : ∃ x y z p, e = .Slice x y z p ∧ k x y z = true := by
  have o := eview_ok e
  unfold onSlice at h
  generalize eview e = x at o h
  cases o <;> first | exact (Bool.false_ne_true h).elim | exact ⟨_, _, _, _, rfl, h⟩
noncomputable def onComp (k : Expr → List Comprehension → Scope → Bool) (e : Expr) : Bool := match eview e with | .comp e1 gs sc => k e1 gs sc | _ => false
theorem onComp_elim {k : Expr → List Comprehension → Scope → Bool} {e : Expr} (h : onComp k e = true) : ∃ e1 gs sc p, e = .ListComp e1 gs sc p ∧ k e1 gs sc = true := by
  have o := eview_ok e
  unfold onComp at h
  generalize eview e = x at o h
  cases o <;> first | exact (Bool.false_ne_true h).elim | exact ⟨_, _, _, _, rfl, h⟩
noncomputable def onList (k : List Expr → Bool) (e : Expr) : Bool := match eview e with | .list l => k l | _ => false
theorem onList_elim {k : List Expr → Bool} {e : Expr} (h : onList k e = true) : ∃ l p, e = .List l p ∧ k l = true := by
  have o := eview_ok e
  unfold onList at h
  generalize eview e = x at o h
  cases o <;> first | exact (Bool.false_ne_true h).elim | exact ⟨_, _, rfl, h⟩
noncomputable def onTup (k : List Expr → Bool) (e : Expr) : Bool := match eview e with | .tup l => k l | _ => false
theorem onTup_elim {k : List Expr → Bool} {e : Expr} (h : onTup k e = true) : ∃ l c p, e = .Tuple l c p ∧ k l = true := by
  have o := eview_ok e
  unfold onTup at h
  generalize eview e = x at o h
  cases o <;> first | exact (Bool.false_ne_true h).elim | exact ⟨_, _, _, rfl, h⟩
noncomputable def one {α : Type} (k : α → Bool) : List α → Bool
  | [x] => k x
  | _ => false
theorem one_elim {α : Type} {k : α → Bool} {l : List α} (h : one k l = true) : ∃ x, l = [x] ∧ k x = true := by
  match l, h with
  | [x], h => exact ⟨x, rfl, h⟩
noncomputable def two {α : Type} (k : α → α → Bool) : List α → Bool
  | [x, y] => k x y
  | _ => false
theorem two_elim {α : Type} {k : α → α → Bool} {l : List α} (h : two k l = true) : ∃ x y, l = [x, y] ∧ k x y = true := by
  match l, h with
  | [x, y], h => exact ⟨x, y, rfl, h⟩
noncomputable def cons2 {α : Type} (k : α → α → List α → Bool) : List α → Bool
  | x :: y :: r => k x y r
  | _ => false
theorem cons2_elim {α : Type} {k : α → α → List α → Bool} {l : List α} (h : cons2 k l = true) : ∃ x y r, l = x :: y :: r ∧ k x y r = true := by
  match l, h with
  | x :: y :: r, h => exact ⟨x, y, r, rfl, h⟩
noncomputable def isAnd : BoolOp → Bool
  | .And => true
  | .Or => false
theorem isAnd_elim {o : BoolOp} (h : isAnd o = true) : o = .And := by cases o; rfl; cases h
theorem isOr_elim {o : BoolOp} (h : (!isAnd o) = true) : o = .Or := by cases o; cases h; rfl
noncomputable def isOne : Const → Bool
  | .int i => decide (i = 1)
  | _ => false
noncomputable def isRev : Option Expr → Bool
  | some e => onUn (fun op x => decide (op = .USub) && onConst isOne x) e
  | none => false
noncomputable def chk (g : GMap) : MExpr → Scope → List (Str × Nat) → Chk
  | .const v, _, _ => ckE (onConst fun c => constIs v c)
  | .gconst v, sc, _ => ckE (onName fun x => globK g sc x (.const v))
  | .loc i, sc, sm => ckE (onName fun x => varK sc sm x i)
  | .bin op a b, sc, sm => ckE (onBin fun l o r => decide (op = o) && (chk g a sc sm).E l && (chk g b sc sm).E r)
  | .un op a, sc, sm => ckE (onUn fun o x => decide (op = o) && (chk g a sc sm).E x)
  | .and a b, sc, sm => ckE (onBool fun o es p => isAnd o && cons2 (fun x y r => (chk g a sc sm).E x && (chk g b sc sm).E (match r with | [] => y | _ => .BoolOp .And (y :: r) p)) es)
  | .or a b, sc, sm => ckE (onBool fun o es p => !isAnd o && cons2 (fun x y r => (chk g a sc sm).E x && (chk g b sc sm).E (match r with | [] => y | _ => .BoolOp .Or (y :: r) p)) es)
  | .cmp op a b, sc, sm => ckE (onCmp fun l os rs => one (fun o => one (fun r => decide (op = o) && (chk g a sc sm).E l && (chk g b sc sm).E r && !behindInMarks o r) rs) os)
  | .cmp2 op₁ op₂ a b c, sc, sm => ckE (onCmp fun l os rs => two (fun o₁ o₂ => two (fun r₁ r₂ => decide (op₁ = o₁) && decide (op₂ = o₂) && (chk g a sc sm).E l && (chk g b sc sm).E r₁ && (chk g c sc sm).E r₂ && !lastMarks [o₁, o₂] [r₁, r₂]) rs) os)
  | .isinst t a, sc, sm => ckE (onCall fun x es => two (fun y zz => onName (fun z => globK g sc x (.bi "isinstance") && globK g sc z (.ty (tyName t)) && (chk g a sc sm).E y && !isStar y) zz) es)
  | .call f args, sc, sm => ckE (onCall fun x es => globK g sc x (.fn f) && (chk g args sc sm).Es es)
  | .bi b args, sc, sm => ckE (onCall fun x es => globK g sc x (biGI b) && (chk g args sc sm).Es es)
  | .lrange _, _, _ => ckE fun _ => false
  | .meth m o args, sc, sm => ckE (onCallX fun f es pos => onAttr (fun eo nm apos => decide (nm = meName m) && (chk g o sc sm).E eo && (chk g args sc sm).Es es && apos.endLine == pos.line && baseOk eo && decide (es.length < 20)) f)
  | .lst a, sc, sm => ckE (onList fun l => (chk g a sc sm).Es l)
  | .tup a, sc, sm => ckE (onTup fun l => (chk g a sc sm).Es l)
  | .sub a b, sc, sm => ckE (onSub fun l r => (chk g a sc sm).E l && (chk g b sc sm).E r && !isSlice r)
  | .slice a lo hi, sc, sm => ckE (onSub fun l r => onSlice (fun x y z => z.isNone && ((chk g a sc sm).E l && (chk g lo sc sm).Es x.toList && (chk g hi sc sm).Es y.toList)) r)
  | .srev _, _, _ => ckE fun _ => false
  | .comp elt tgt it cond, sc, sm => ckE (onComp fun e1 gs sc' => match tgt with
      | .loc i => one (fun gn => onName (fun x => gn.is_async == 0 && compScOk sc' sc x && (sc'.names.all fun p => p.2 != .local || p.1 == x || (sm.lookup p.1).isNone) && nameOk x && sm.all (fun p => p.2 != i) && (chk g it sc sm).I gn.iter &&
          (chk g elt (relabelS sc' sc) ((x, i) :: sm)).E e1 &&
          (match gn.ifs with | [] => isTT cond | [c] => (chk g cond (relabelS sc' sc) ((x, i) :: sm)).E c | _ => false)) gn.target) gs
      | _ => false)
  | .attr o k, sc, sm => ckE (onAttr fun eo nm _ => isTab (g.lookup tabNm) && decide (nm = attrName k) && decide (k < 3) && onName (fun _ => true) eo && (chk g o sc sm).E eo)
  | .mcall f o args, sc, sm => ckE (onCallX fun fe es pos => onAttr (fun eo nm apos => isTab (g.lookup tabNm) && g.lookup (methKey nm) == some (.meth f) && !([attrName 0, attrName 1, attrName 2].contains nm) && onName (fun _ => true) eo && (chk g o sc sm).E eo && (chk g args sc sm).Es es && apos.endLine == pos.line && decide (es.length < 20)) fe)
  | .newT f, sc, _ => ckE (onCall fun x es => globK g sc x (.tab f) && decide (x = tabNm) && es.isEmpty)
  | .compz a b, sc, sm => ckE (onComp fun e1 gs sc' => one (fun gn => isTupleT gn.target && gn.is_async == 0 && gn.ifs.isEmpty && compScOk2 sc' sc && onCall (fun x es => globK g sc x (.ty "zip") && two (fun y z => (chk g a sc sm).E y && (chk g b sc sm).E z && !isStar y && !isStar z) es) gn.iter) gs)
  | .nil, _, _ => ckS fun es => es.isEmpty
  | .cons a b, sc, sm => ckS fun es => match es with | e :: r => (chk g a sc sm).E e && !isStar e && (chk g b sc sm).Es r | [] => false
  | .irange a, sc, sm => ckI (onCall fun x es => one (fun y => globK g sc x (.ty "range") && (chk g a sc sm).E y && !isStar y) es)
  | .irange2 a b, sc, sm => ckI (onCall fun x es => two (fun y z => globK g sc x (.ty "range") && (chk g a sc sm).E y && (chk g b sc sm).E z && !isStar y && !isStar z) es)
  | .iobj a, sc, sm => ckI fun e => (chk g a sc sm).E e

noncomputable def isComp : Expr → Bool
  | .ListComp .. | .SetComp .. | .DictComp .. => true
  | _ => false
noncomputable def isTupleE : Expr → Bool
  | .Tuple .. => true
  | _ => false
noncomputable def stK (sc : Scope) (sm : List (Str × Nat)) (x : Str) (i : Nat) : Bool := (sc.names.lookup x == some .local || sc.names.lookup x == some .cell) && nameOk x && sm.lookup x == some i

/-- slots of a display of names -/
noncomputable def chkSlots (sc : Scope) (sm : List (Str × Nat)) : List Nat → List Expr → Bool
  | [], es => es.isEmpty
  | i :: is, es => (match es with | [] => false | e :: r => onName (fun x => stK sc sm x i) e && chkSlots sc sm is r)
noncomputable def chkTgt (sc : Scope) (sm : List (Str × Nat)) : MExpr → Expr → Bool
  | .loc i => onName fun x => stK sc sm x i
  | _ => fun _ => false

/-- a statement as the checker sees it -/
inductive SV where
  | assign (t v : Expr) | expr (v : Expr) | ifs (x : Expr) (y z : List Stmt) | fors (x y : Expr) (z : List Stmt) | whiles (x : Expr) (y : List Stmt) | ret (v : Option Expr) | raise (e : Expr) | tryx (y : List Stmt) (hs : List ExceptHandler) | other
noncomputable def sview : Stmt → SV
  | .Assign [t] v _ => .assign t v
  | .Expr v _ => .expr v
  | .If x y z _ => .ifs x y z
  | .For x y z [] _ => .fors x y z
  | .While x y [] _ => .whiles x y
  | .Return v _ => .ret v
  | .Raise (some e) none _ => .raise e
  | .Try y hs [] [] _ => .tryx y hs
  | _ => .other
inductive SVOk : Stmt → SV → Prop
  | assign (t v p) : SVOk (.Assign [t] v p) (.assign t v)
  | expr (v p) : SVOk (.Expr v p) (.expr v)
  | ifs (x y z p) : SVOk (.If x y z p) (.ifs x y z)
  | fors (x y z p) : SVOk (.For x y z [] p) (.fors x y z)
  | whiles (x y p) : SVOk (.While x y [] p) (.whiles x y)
  | ret (v p) : SVOk (.Return v p) (.ret v)
  | raise (e p) : SVOk (.Raise (some e) none p) (.raise e)
  | tryx (y hs p) : SVOk (.Try y hs [] [] p) (.tryx y hs)
  | other (s) : SVOk s .other
theorem sview_ok (s : Stmt) : SVOk s (sview s) := by
  cases s with
  | Assign ts v p =>
    cases ts with
    | nil => exact .other _
    | cons t r =>
      cases r with
      | nil => exact .assign t v p
      | cons => exact .other _
  | For x y z o p =>
    cases o with
    | nil => exact .fors x y z p
    | cons => exact .other _
  | While x y o p =>
    cases o with
    | nil => exact .whiles x y p
    | cons => exact .other _
  | Raise a b p =>
    cases a with
    | none => exact .other _
    | some e =>
      cases b with
      | none => exact .raise e p
      | some => exact .other _
  | Try y hs o f p =>
    cases o with
    | nil =>
      cases f with
      | nil => exact .tryx y hs p
      | cons => exact .other _
    | cons => exact .other _
  | _ => first | exact .other _ | constructor

structure ChkS where
  S : Stmt → Bool
  Ss : List Stmt → Bool
noncomputable def csS (f : Stmt → Bool) : ChkS := ⟨f, fun _ => false⟩
noncomputable def csV (f : SV → Bool) : ChkS := ⟨fun s => f (sview s), fun _ => false⟩
noncomputable def csL (f : List Stmt → Bool) : ChkS := ⟨fun _ => false, f⟩

noncomputable def noAsg : MStmt → Bool
  | .nil => true
  | .cons a b => noAsg a && noAsg b
  | .expr _ => true
  | .ret _ => true
  | .ifs _ t e => noAsg t && noAsg e
  | _ => false
noncomputable def isStrC : Const → Bool
  | .str _ => true
  | _ => false
/-- the suite of `except K as y: return isinstance(y, ValueError)` -/
noncomputable def asOk (g : GMap) (sc : Scope) (sm : List (Str × Nat)) (y : Str) (e : Expr) : Bool :=
  onCall (fun f es => globK g sc f (.bi "isinstance") && two (fun a b => onName (fun z => decide (z = y)) a && onName (fun z => globK g sc z (.ty "ValueError")) b) es) e && (sc.names.lookup y == some .local && nameOk y && (sm.lookup y).isNone)
noncomputable def onRet (k : Expr → Bool) (s : Stmt) : Bool := match sview s with | .ret (some e) => k e | _ => false
noncomputable def chkH1 (g : GMap) (sc : Scope) (sm : List (Str × Nat)) (k : Nat × Bool × Val) (h : ExceptHandler) : Bool := match h with
  | .ExceptHandler (some t) nm body _ => onName (fun x => globK g sc x (.cls k.1)) t && one (onRet fun e => match nm with
      | none => !k.2.1 && onConst (fun c => constIs k.2.2 c) e
      | some y => k.2.1 && asOk g sc sm y e && decide (k.2.2 = .bool true)) body
  | .ExceptHandler none _ _ _ => false
noncomputable def chkH (g : GMap) (sc : Scope) (sm : List (Str × Nat)) : List (Nat × Bool × Val) → List ExceptHandler → Bool
  | [], l => l.isEmpty
  | k :: r, l => (match l with | [] => false | h :: r' => chkH1 g sc sm k h && chkH g sc sm r r')

/-- isinstance(y, K) for classes of ours -/
noncomputable def isiK (g : GMap) (sc : Scope) (y : Str) (k : Nat) (e : Expr) : Bool := onCall (fun f es => globK g sc f (.bi "isinstance") && two (fun a b => onName (fun z => decide (z = y)) a && onName (fun z => globK g sc z (.cls k)) b) es) e
noncomputable def isisK (g : GMap) (sc : Scope) (y : Str) : List Nat → List Expr → Bool
  | [], l => l.isEmpty
  | k :: r, l => (match l with | [] => false | e :: r' => isiK g sc y k e && isisK g sc y r r')
noncomputable def onAsg (k : Str → Expr → Bool) (s : Stmt) : Bool := match sview s with | .assign t v => onName (fun x => k x v) t | _ => false
noncomputable def plusK (g : GMap) (sc : Scope) (y f : Str) (ks : List Nat) (e : Expr) : Bool := onBin (fun l o r => (match o with | .Add => true | _ => false) && onName (fun z => decide (z = f)) l && onList (isisK g sc y ks) r) e
noncomputable def three {α : Type} (k : α → α → α → Bool) : List α → Bool
  | [x, y, z] => k x y z
  | _ => false
noncomputable def chkKd (g : GMap) (y f : Str) (params : Arguments) (sc : Scope) (body : List Stmt) : Bool :=
  params.posonlyargs.isEmpty && params.kwonlyargs.isEmpty && params.vararg.isNone && params.kwarg.isNone &&
  decide (params.args.map (·.arg) = [y]) && decide (y ≠ f) && nameOk y && nameOk f && sc.kind == .function && sc.isGenerator == false && sc.isCoroutine == false &&
  sc.names.lookup y == some .local && sc.names.lookup f == some .local &&
  three (fun s1 s2 s3 => onAsg (fun x v => decide (x = f) && onList (isisK g sc y [1, 2, 3]) v) s1 && onAsg (fun x v => decide (x = f) && plusK g sc y f [4, 5, 6] v) s2 && onRet (plusK g sc y f [7, 8]) s3) body
/-- except SplitError as y: return isinstance(y, ValueError) and kinds(y) == [..] -/
noncomputable def chkK (g : GMap) (sc : Scope) (sm : List (Str × Nat)) (k w : Nat) (h : ExceptHandler) : Bool := match h with
  | .ExceptHandler (some t) (some y) body _ => onName (fun x => globK g sc x (.cls 0)) t && one (onRet (onBool fun o es _ => isAnd o && two (fun e1 e2 => asOk g sc sm y e1 && onCmp (fun l os rs => one (fun o => one (fun r =>
      (match o with | .Eq => true | _ => false) && onCall (fun x es => globK g sc x .kinds && one (onName fun z => decide (z = y)) es) l && (chk g (kComp k w) sc sm).E r) rs) os) e2) es)) body
  | .ExceptHandler (some _) none _ _ => false
  | .ExceptHandler none _ _ _ => false
noncomputable def chkS (g : GMap) (sc : Scope) (sm : List (Str × Nat)) : MStmt → ChkS
  | .nil => csL fun l => l.isEmpty
  | .cons a b => csL fun l => match l with | s :: r => (chkS g sc sm a).S s && (chkS g sc sm b).Ss r | [] => false
  | .assign i e => csV fun s => match s with
      | .assign t v => onName (fun x => stK sc sm x i) t && (chk g e sc sm).E v
      | _ => false
  | .asub o i e => csV fun s => match s with
      | .assign t v => onSub (fun eo ei => (chk g e sc sm).E v && (chk g o sc sm).E eo && (chk g i sc sm).E ei && !isSlice ei) t
      | _ => false
  | .aattr o k e => csV fun s => match s with
      | .assign t v => onAttr (fun eo nm _ => isTab (g.lookup tabNm) && decide (nm = attrName k) && decide (k < 3) && onName (fun _ => true) eo && (chk g o sc sm).E eo && (chk g e sc sm).E v && !isComp v) t
      | _ => false
  | .wild => ⟨fun _ => true, fun _ => true⟩
  | .atup ts e => csV fun s => match s with
      | .assign t v => onTup (fun l => chkSlots sc sm ts l && (chk g e sc sm).E v && !isTupleE v && !isComp v) t
      | _ => false
  | .expr e => csV fun s => match s with
      | .expr v => (chk g e sc sm).E v && !isComp v
      | _ => false
  | .ifs c t e => csV fun s => match s with
      | .ifs x y z => (chk g c sc sm).E x && (chkS g sc sm t).Ss y && (chkS g sc sm e).Ss z
      | _ => false
  | .fors tgt it b => csV fun s => match s with
      | .fors x y z => chkTgt sc sm tgt x && (chk g it sc sm).I y && (chkS g sc sm b).Ss z
      | _ => false
  | .whiles c b => csV fun s => match s with
      | .whiles x y => (chk g c sc sm).E x && (chkS g sc sm b).Ss y
      | _ => false
  | .ret e => csV fun s => match s with
      | .ret (some v) => (chk g e sc sm).E v
      | .ret none => isNC e
      | _ => false
  | .raise c => csV fun s => match s with
      | .raise e => onCall (fun x es => globK g sc x (.cls c) && one (onConst isStrC) es) e
      | _ => false
  | .tryx b hs => csV fun s => match s with
      | .tryx y l => noAsg b && (chkS g sc sm b).Ss y && (!hs.isEmpty && chkH g sc sm hs l)
      | _ => false
  | .tryk b k w => csV fun s => match s with
      | .tryx y l => noAsg b && (chkS g sc sm b).Ss y && one (chkK g sc sm k w) l
      | _ => false

noncomputable def chkFun (g : GMap) (names : List Str) (params : Arguments) (sc : Scope) (body : List Stmt) (d : MFun) : Bool :=
  params.posonlyargs.isEmpty && params.kwonlyargs.isEmpty && params.vararg.isNone && params.kwarg.isNone && params.defaults.isEmpty && params.kw_defaults.isEmpty &&
  decide (params.args.map (·.arg) = names.take d.np) && decide (names.Nodup) && decide (d.np ≤ names.length) && decide (names.length ≤ d.ns) &&
  sc.kind == .function && sc.isGenerator == false && sc.isCoroutine == false &&
  (names.all fun x => sc.names.lookup x == some .local || sc.names.lookup x == some .cell) &&
  (sc.names.all fun p => p.2 != .free) && decide (((cellsFrom 0 sc.names []).map (·.1)).Nodup) && (chkS g sc names.zipIdx d.body).Ss body

end Mine


-- part MiniSE
set_option maxRecDepth 4000
set_option linter.unusedVariables false
namespace Mine
open PySem

structure Cx (n : Nat) (B : Heap) (X : XE) (A : Around) (env : Env) (sc : Scope) (sm : List (Str × Nat)) (ρ : Rho) (μ : List Addr) (σ : MH) (h : Heap) : Prop where
  scope : env.scope = sc
  ok : AOk n A
  frm : Frm B env μ h
  vars : Vars env sm ρ μ h
  rel : HRel B μ σ h
  frames : A.frames = some X.l
  fok : FrOk B X.l μ h
  here : ∃ e0 outer, X.l = e0 :: outer ∧ e0.frame = env.frame
  apart : ∀ e, e ∈ X.l → ∀ L, e.frame = some L → ∀ x, env.cells.lookup x ≠ some L
  hd : HdOk A μ h

theorem Cx.step {n : Nat} {B : Heap} {X : XE} {A : Around} {env : Env} {sc : Scope} {sm : List (Str × Nat)} {ρ : Rho} {μ μ' : List Addr} {σ σ' : MH} {h h' : Heap} (c : Cx n B X A env sc sm ρ μ σ h) (st : Step μ μ' h h') (r : HRel B μ' σ' h') : Cx n B X A env sc sm ρ μ' σ' h' :=
  ⟨c.scope, c.ok, c.frm.step st, c.vars.step c.frm st, r, c.frames, c.fok.step st, c.here, c.apart, c.hd.step st⟩
theorem Cx.kind {n : Nat} {B : Heap} {X : XE} {A : Around} {env : Env} {sc : Scope} {sm : List (Str × Nat)} {ρ : Rho} {μ : List Addr} {σ : MH} {h : Heap} (c : Cx n B X A env sc sm ρ μ σ h) (x : Str) : env.kindOf x = sc.names.lookup x := by
  unfold Env.kindOf; rw [c.scope]

section
variable (n : Nat) (C : Cf) (prog : Program) (w : World) (B : Heap) (sc : Scope) (sm : List (Str × Nat))

noncomputable def SE (m : MExpr) (e : Expr) : Prop :=
  ∀ {env ρ σ μ} {s : Shared} {A : Around} {X : XE} {Q : Value → Shared → Prop}, Cx n B X A env sc sm ρ μ σ s.heap → Post B X VRel μ s Q ((sem C m).E ρ σ) → wpAny (model prog w) A (eval e env) Q X.E s
noncomputable def ST (m : MExpr) (e : Expr) : Prop :=
  ∀ {env ρ σ μ} {s : Shared} {A : Around} {X : XE} {Q : Bool → Shared → Prop}, Cx n B X A env sc sm ρ μ σ s.heap → Post B X BRel μ s Q ((sem C m).T ρ σ) → wpAny (model prog w) A (isTrue e env (eval e env)) Q X.E s
noncomputable def SS (m : MExpr) (es : List Expr) : Prop :=
  ∀ {env ρ σ μ} {s : Shared} {A : Around} {X : XE} {Q : List Value → Shared → Prop} (pos : Pos), Cx n B X A env sc sm ρ μ σ s.heap → Post B X VsRel μ s Q ((sem C m).Es ρ σ) → wpAny (model prog w) A (spliced (backTo pos (starEach es env))) Q X.E s

/-- what an iterable gives: an iterator of our own -/
noncomputable def PostI (X : XE) (μ : List Addr) (s : Shared) (Q : Value → Shared → Prop) : Res Src → Prop
  | .ok (xs, ck) σ => ∀ μ' I At h' tk, HRel B μ' σ h' → Step μ μ' s.heap h' → I ∉ μ' → B.get? I = none → s.heap.get? I = none → Iter prog w B μ' xs ck I At → At 0 h' → ck σ = true → xs.length ≤ lim → Q (.ref I) { s with heap := h', toks := tk }
  | .exc c σ => PostX B X μ s c σ
  | .stuck => False
noncomputable def SI (m : MExpr) (e : Expr) : Prop :=
  (∀ env x, foldedSetIterable e env x = pure x) ∧
  ∀ {env ρ σ μ} {s : Shared} {A : Around} {X : XE} {Q : Value → Shared → Prop}, Cx n B X A env sc sm ρ μ σ s.heap → PostI prog w B X μ s Q ((sem C m).I ρ σ) →
    wpAny (model prog w) A (eval e env) (fun x s₁ => wpAny (model prog w) A (pyIter x) Q X.E s₁) X.E s
end

section
variable {n : Nat} {C : Cf} {prog : Program} {w : World} {B : Heap} {sc : Scope} {sm : List (Str × Nat)}
variable {env : Env} {ρ : Rho} {σ : MH} {μ : List Addr} {s : Shared} {A : Around} {E : Value → Shared → Prop} {X : XE}

theorem Post.bindR {α γ β δ : Type} {W : List Addr → γ → δ → Prop} {V : List Addr → α → β → Prop} {Q : β → Shared → Prop} {Q' : δ → Shared → Prop} {r : Res γ} {f : γ → MH → Res α} (p : Post B X V μ s Q (r.bind f))
    (k : ∀ v σ1 μ1 v' h1 tk, HRel B μ1 σ1 h1 → Step μ μ1 s.heap h1 → W μ1 v v' → Post B X V μ1 { s with heap := h1, toks := tk } Q (f v σ1) → Q' v' { s with heap := h1, toks := tk }) : Post B X W μ s Q' r := by
  cases r with
  | ok v σ1 => intro μ1 v' h1 tk r1 st hv; exact k v σ1 μ1 v' h1 tk r1 st hv (Post.step (x := f v σ1) p st)
  | exc c h => exact p
  | stuck => exact p

theorem SE.bind {α β : Type} {m : MExpr} {e : Expr} {V : List Addr → α → β → Prop} {Q : β → Shared → Prop} {Q' : Value → Shared → Prop} {f : Val → MH → Res α} (h : SE n C prog w B sc sm m e) (cx : Cx n B X A env sc sm ρ μ σ s.heap)
    (p : Post B X V μ s Q (((sem C m).E ρ σ).bind f))
    (k : ∀ v σ1 μ1 v' h1 tk, Cx n B X A env sc sm ρ μ1 σ1 h1 → Step μ μ1 s.heap h1 → VRel μ1 v v' → Post B X V μ1 { s with heap := h1, toks := tk } Q (f v σ1) → Q' v' { s with heap := h1, toks := tk }) : wpAny (model prog w) A (eval e env) Q' X.E s :=
  h cx (p.bindR fun v σ1 μ1 v' h1 tk r st hv q => k v σ1 μ1 v' h1 tk (cx.step st r) st hv q)
theorem ST.bind {α β : Type} {m : MExpr} {e : Expr} {V : List Addr → α → β → Prop} {Q : β → Shared → Prop} {Q' : Bool → Shared → Prop} {f : Bool → MH → Res α} (h : ST n C prog w B sc sm m e) (cx : Cx n B X A env sc sm ρ μ σ s.heap)
    (p : Post B X V μ s Q (((sem C m).T ρ σ).bind f))
    (k : ∀ v σ1 μ1 h1 tk, Cx n B X A env sc sm ρ μ1 σ1 h1 → Step μ μ1 s.heap h1 → Post B X V μ1 { s with heap := h1, toks := tk } Q (f v σ1) → Q' v { s with heap := h1, toks := tk }) : wpAny (model prog w) A (isTrue e env (eval e env)) Q' X.E s :=
  h cx (p.bindR fun v σ1 μ1 v' h1 tk r st hv q => by rw [← show v = v' from hv]; exact k v σ1 μ1 h1 tk (cx.step st r) st q)
theorem SS.bind {α β : Type} {m : MExpr} {es : List Expr} {V : List Addr → α → β → Prop} {Q : β → Shared → Prop} {Q' : List Value → Shared → Prop} {f : List Val → MH → Res α} {pos : Pos} (h : SS n C prog w B sc sm m es) (cx : Cx n B X A env sc sm ρ μ σ s.heap)
    (p : Post B X V μ s Q (((sem C m).Es ρ σ).bind f))
    (k : ∀ v σ1 μ1 v' h1 tk, Cx n B X A env sc sm ρ μ1 σ1 h1 → Step μ μ1 s.heap h1 → VsRel μ1 v v' → Post B X V μ1 { s with heap := h1, toks := tk } Q (f v σ1) → Q' v' { s with heap := h1, toks := tk }) : wpAny (model prog w) A (spliced (backTo pos (starEach es env))) Q' X.E s :=
  h pos cx (p.bindR fun v σ1 μ1 v' h1 tk r st hv q => k v σ1 μ1 v' h1 tk (cx.step st r) st hv q)

/-- truth by the value -/
theorem ST.plain {m : MExpr} {e : Expr} (h : SE n C prog w B sc sm m e) (ht : (sem C m).T = tOf (sem C m).E)
    (he : ∀ env whole, isTrue e env whole = (do let v ← whole; standAt e.pos; holding [v] (truthy v))) : ST n C prog w B sc sm m e := fun {env ρ σ μ s A X Q} cx p => by
  rw [ht] at p
  exact wpAny_isTrue_value (h.bind cx p fun v σ1 μ1 v' h1 tk cx1 _ hv q => truthy_sound cx1.rel hv q) (he _ _)

theorem se_const {v : Val} {c : Const} {k : Nat} {pos : Pos} (h : constIs v c = true) : SE n C prog w B sc sm (.const v) (.Constant c k pos) := fun {env ρ σ μ s A X Q} cx p => by
  have p : Post B X VRel μ s Q (.ok v σ) := p
  cases v with
  | none =>
    cases c with
    | none => exact wpAny_Constant_none (p.here' cx.rel rfl)
    | _ => exact (Bool.false_ne_true h).elim
  | bool a =>
    cases c with
    | bool b =>
      have h : (a == b) = true := h
      rw [beq_iff_eq] at h; subst h; exact wpAny_Constant_bool (p.here' cx.rel rfl)
    | _ => exact (Bool.false_ne_true h).elim
  | int a =>
    cases c with
    | int b =>
      have h : (a == b) = true := h
      rw [beq_iff_eq] at h; subst h; exact wpAny_Constant_int (p.here cx.rel ⟨_, rfl⟩)
    | _ => exact (Bool.false_ne_true h).elim
  | str a =>
    cases c with
    | str b =>
      have h : (decide (b = ⟨a.toArray⟩) && decide (a.length ≤ lim)) = true := h
      simp only [Bool.and_eq_true, decide_eq_true_eq] at h
      obtain ⟨rfl, hl⟩ := h
      exact wpAny_Constant_str (p.here cx.rel ⟨hl, _, rfl⟩)
    | _ => exact (Bool.false_ne_true h).elim
  | ref a => exact (Bool.false_ne_true h).elim

theorem nameOk_1 {x : Str} (h : nameOk x = true) : (x == ("__debug__" : Str)) = false := by
  unfold nameOk at h; simp only [Bool.and_eq_true, beq_iff_eq] at h; exact h.1
theorem nameOk_2 {x : Str} (h : nameOk x = true) : (x == ("__classdict__" : Str)) = false := by
  unfold nameOk at h; simp only [Bool.and_eq_true, beq_iff_eq] at h; exact h.2

theorem se_loc {i : Nat} {x : Str} {pos : Pos} (h : varK sc sm x i = true) : SE n C prog w B sc sm (.loc i) (.Name x pos) := fun {env ρ σ μ s A X Q} cx p => by
  have p : Post B X VRel μ s Q (locV i ρ σ) := p
  unfold varK at h
  simp only [Bool.and_eq_true, beq_iff_eq] at h
  obtain ⟨⟨h1, h2⟩, h3⟩ := h
  unfold locV at p
  split at p
  · rename_i v hv
    obtain ⟨u, b, r⟩ := cx.vars x i v (by rw [cx.kind]; exact h1) h3 hv
    refine wpAny_Name ?_ (nameOk_1 h2)
    rcases b with ⟨k, m, hn, hm⟩ | ⟨k | k, c, hc, hi⟩
    · exact wpAny_loadName_local cx.frm.kind k hn hm (p.here' cx.rel r)
    · exact wpAny_loadName_cell cx.frm.kind k hc hi (p.here' cx.rel r)
    · exact wpAny_loadName_free cx.frm.kind k hc hi (p.here' cx.rel r) (nameOk_2 h2)
  · exact p.elim

theorem se_bin {op : Operator} {a b : MExpr} {l r : Expr} {pos : Pos} (ha : SE n C prog w B sc sm a l) (hb : SE n C prog w B sc sm b r) : SE n C prog w B sc sm (.bin op a b) (.BinOp l op r pos) := fun {env ρ σ μ s A X Q} cx p =>
  wpAny_BinOp (ha.bind cx p fun v σ1 μ1 v' h1 tk cx1 _ hv q => hb.bind cx1 q fun u σ2 μ2 u' h2 tk2 cx2 st2 hu q2 => bin_sound cx2.rel (hv.mono st2.pre) hu q2)

theorem se_un {op : UnaryOp} {a : MExpr} {x : Expr} {pos : Pos} (ha : SE n C prog w B sc sm a x) : SE n C prog w B sc sm (.un op a) (.UnaryOp op x pos) := fun {env ρ σ μ s A X Q} cx p =>
  wpAny_UnaryOp (ha.bind cx p fun v σ1 μ1 v' h1 tk cx1 _ hv q => un_sound cx1.rel hv q)

theorem st_un {op : UnaryOp} {a : MExpr} {x : Expr} {pos : Pos} (ha : SE n C prog w B sc sm a x) (ta : ST n C prog w B sc sm a x) : ST n C prog w B sc sm (.un op a) (.UnaryOp op x pos) := fun {env ρ σ μ s A X Q} cx p => by
  cases op with
  | Not => exact wpAny_isTrue_Not (ta.bind cx p fun b σ1 μ1 h1 tk cx1 _ q => q.here' cx1.rel rfl)
  | _ => exact wpAny_isTrue_value (wpAny_UnaryOp (ha.bind cx (by rw [← Res.bind_assoc]; exact p) fun v σ1 μ1 v' h1 tk cx1 _ hv q => un_sound cx1.rel hv (q.bindR fun u σ2 μ2 u' h2 tk2 r2 st2 hu q2 => truthy_sound r2 hu q2)))

theorem eval_BoolOp1 (op : BoolOp) (y : Expr) (p : Pos) (env : Env) : eval (.BoolOp op [y] p) env = eval y env := by
  rw [arm_eval_BoolOp]; rfl
theorem eval_BoolOp2 (op : BoolOp) (x y : Expr) (r : List Expr) (p : Pos) (env : Env) : eval (.BoolOp op (x :: y :: r) p) env = (do
    let v ← eval x env
    standAt p
    let t ← holding [v] (truthy v)
    match op, t with
    | .And, false | .Or, true => pure v
    | _, _ => eval (.BoolOp op (y :: r) p) env) := by
  rw [arm_eval_BoolOp, arm_eval_BoolOp]; rfl

/-- the tail of a chain of and | or -/
noncomputable def tailB (op : BoolOp) (y : Expr) (r : List Expr) (p : Pos) : Expr := match r with | [] => y | _ => .BoolOp op (y :: r) p
theorem eval_tailB (op : BoolOp) (y : Expr) (r : List Expr) (p : Pos) (env : Env) : eval (.BoolOp op (y :: r) p) env = eval (tailB op y r p) env := by
  cases r with
  | nil => exact eval_BoolOp1 op y p env
  | cons z r => rfl

theorem se_and {a b : MExpr} {x y : Expr} {r : List Expr} {p : Pos} (ha : SE n C prog w B sc sm a x) (hb : SE n C prog w B sc sm b (tailB .And y r p)) : SE n C prog w B sc sm (.and a b) (.BoolOp .And (x :: y :: r) p) := fun {env ρ σ μ s A X Q} cx q => by
  rw [eval_BoolOp2]
  refine wpAny_bind (ha.bind cx q fun v σ1 μ1 v' h1 tk cx1 _ hv q1 => wpAny_bind (wpAny_standAt (wpAny_bind (wpAny_holding (truthy_sound cx1.rel hv (q1.bindR fun t σ2 μ2 t' h2 tk2 r2 st2 ht q2 => ?_))))))
  rw [← show t = t' from ht]
  cases t with
  | false => exact wpAny_pure (Post.here' (s := { s with heap := h2, toks := tk2 }) r2 q2 (hv.mono st2.pre))
  | true => rw [eval_tailB]; exact hb (cx1.step st2 r2) q2
theorem se_or {a b : MExpr} {x y : Expr} {r : List Expr} {p : Pos} (ha : SE n C prog w B sc sm a x) (hb : SE n C prog w B sc sm b (tailB .Or y r p)) : SE n C prog w B sc sm (.or a b) (.BoolOp .Or (x :: y :: r) p) := fun {env ρ σ μ s A X Q} cx q => by
  rw [eval_BoolOp2]
  refine wpAny_bind (ha.bind cx q fun v σ1 μ1 v' h1 tk cx1 _ hv q1 => wpAny_bind (wpAny_standAt (wpAny_bind (wpAny_holding (truthy_sound cx1.rel hv (q1.bindR fun t σ2 μ2 t' h2 tk2 r2 st2 ht q2 => ?_))))))
  rw [← show t = t' from ht]
  cases t with
  | true => exact wpAny_pure (Post.here' (s := { s with heap := h2, toks := tk2 }) r2 q2 (hv.mono st2.pre))
  | false => rw [eval_tailB]; exact hb (cx1.step st2 r2) q2

theorem isTrue_BoolOp (op : BoolOp) (vs : List Expr) (p : Pos) (env : Env) (whole : Sem Value) : isTrue (.BoolOp op vs p) env whole = allTrue op vs env := by
  rw [arm_isTrue_BoolOp]
theorem allTrue_tail {Q : Bool → Shared → Prop} (op : BoolOp) (y : Expr) (r : List Expr) (p : Pos) (h : wpAny (model prog w) A (isTrue (tailB op y r p) env (eval (tailB op y r p) env)) Q E s) : wpAny (model prog w) A (allTrue op (y :: r) env) Q E s := by
  cases r with
  | nil =>
    cases op with
    | And => exact wpAny_allTrue_And_cons (wpAny_mono h (fun b s' q => by cases b; exact q; exact wpAny_allTrue_And_nil q) fun _ _ x => x)
    | Or => exact wpAny_allTrue_Or_cons (wpAny_mono h (fun b s' q => by cases b; exact wpAny_allTrue_Or_nil q; exact q) fun _ _ x => x)
  | cons z r => rw [show tailB op y (z :: r) p = .BoolOp op (y :: z :: r) p from rfl, isTrue_BoolOp] at h; exact h

theorem st_and {a b : MExpr} {x y : Expr} {r : List Expr} {p : Pos} (ta : ST n C prog w B sc sm a x) (tb : ST n C prog w B sc sm b (tailB .And y r p)) : ST n C prog w B sc sm (.and a b) (.BoolOp .And (x :: y :: r) p) := fun {env ρ σ μ s A X Q} cx q =>
  wpAny_isTrue_BoolOp (wpAny_allTrue_And_cons (ta.bind cx q fun t σ1 μ1 h1 tk cx1 st1 q1 => by
    cases t with
    | false => exact Post.here' (s := { s with heap := h1, toks := tk }) cx1.rel q1 rfl
    | true => exact allTrue_tail .And y r p (tb cx1 q1)))
theorem st_or {a b : MExpr} {x y : Expr} {r : List Expr} {p : Pos} (ta : ST n C prog w B sc sm a x) (tb : ST n C prog w B sc sm b (tailB .Or y r p)) : ST n C prog w B sc sm (.or a b) (.BoolOp .Or (x :: y :: r) p) := fun {env ρ σ μ s A X Q} cx q =>
  wpAny_isTrue_BoolOp (wpAny_allTrue_Or_cons (ta.bind cx q fun t σ1 μ1 h1 tk cx1 st1 q1 => by
    cases t with
    | true => exact Post.here' (s := { s with heap := h1, toks := tk }) cx1.rel q1 rfl
    | false => exact allTrue_tail .Or y r p (tb cx1 q1)))

theorem se_cmp {op : CmpOp} {a b : MExpr} {l r : Expr} {pos : Pos} (hm : behindInMarks op r = false) (ha : SE n C prog w B sc sm a l) (hb : SE n C prog w B sc sm b r) : SE n C prog w B sc sm (.cmp op a b) (.Compare l [op] [r] pos) := fun {env ρ σ μ s A X Q} cx p =>
  wpAny_Compare1 (ha.bind cx p fun v σ1 μ1 v' h1 tk cx1 _ hv q => hb.bind cx1 q fun u σ2 μ2 u' h2 tk2 cx2 st2 hu q2 => cmp_sound cx2.ok cx2.rel (hv.mono st2.pre) hu q2) hm
theorem cmpT_sound {op : CmpOp} {v u : Val} {v' u' : Value} {Q : Bool → Shared → Prop} (ok : AOk n A) (r : HRel B μ σ s.heap) (hv : VRel μ v v') (hu : VRel μ u u')
    (p : Post B X BRel μ s Q (Res.opt (cmpV σ op v u) σ)) : wpAny (model prog w) A (compareOp op v' u') (fun c s₃ => wpAny (model prog w) A (truthy c) Q E s₃) E s := by
  refine cmp_sound (X := X) ok r hv hu ?_
  cases q : cmpV σ op v u with
  | none => rw [q] at p; exact p.elim
  | some t =>
    rw [q] at p
    intro μ' c h' tk r' st hc
    rw [show c = .bool t from hc]
    exact wpAny_truthy_bool (p μ' t h' tk r' st rfl)
theorem st_cmp {op : CmpOp} {a b : MExpr} {l r : Expr} {pos : Pos} (hm : behindInMarks op r = false) (ha : SE n C prog w B sc sm a l) (hb : SE n C prog w B sc sm b r) : ST n C prog w B sc sm (.cmp op a b) (.Compare l [op] [r] pos) := fun {env ρ σ μ s A X Q} cx p =>
  wpAny_isTrue_Compare1 (ha.bind cx p fun v σ1 μ1 v' h1 tk cx1 _ hv q => hb.bind cx1 q fun u σ2 μ2 u' h2 tk2 cx2 st2 hu q2 => cmpT_sound cx2.ok cx2.rel (hv.mono st2.pre) hu q2) hm

end
end Mine


-- part MiniSF
set_option maxRecDepth 4000
set_option linter.unusedVariables false
namespace Mine
open PySem

noncomputable def FnAt (g : GMap) (F : Nat → Option MFun) (B : Heap) (f : Nat) (a : Addr) : Prop :=
  ∃ o fd body names d, B.get? a = some o ∧ o.data = .func fd ∧ B.CodeRec fd.code fd.qualname ∧ fd.body = .stmts body ∧ fd.closure = [] ∧ fd.globals = mainGlobals ∧ fd.builtins = builtinsNs ∧ fd.defaults = .none ∧
    F f = some d ∧ chkFun g names fd.params fd.scope body d = true

/-- the class Table as it stands: its methods -/
noncomputable def TabOk (g : GMap) (F : Nat → Option MFun) (B : Heap) (f : Nat) : Prop :=
  ∃ N mN, PyProof.Rows.ClsAt B (tabK B) N mN ∧ (∃ a o, mN "__init__" = some (.ref a) ∧ B.get? a = some o ∧ o.cls = .type "function" ∧ FnAt g F B f a) ∧
    mN "__getattribute__" = none ∧ mN "__getattr__" = none ∧ mN "__setattr__" = none ∧ (∀ k, k < 3 → mN (attrName k) = none) ∧
    ∀ nm f', g.lookup (methKey nm) = some (.meth f') → ∃ a o, mN nm = some (.ref a) ∧ B.get? a = some o ∧ o.cls = .type "function" ∧ FnAt g F B f' a
noncomputable def KdAt (g : GMap) (B : Heap) (a : Addr) : Prop :=
  ∃ o fd body y f, B.get? a = some o ∧ o.data = .func fd ∧ B.CodeRec fd.code fd.qualname ∧ fd.body = .stmts body ∧ fd.closure = [] ∧ fd.globals = mainGlobals ∧ fd.builtins = builtinsNs ∧ fd.defaults = .none ∧ chkKd g y f fd.params fd.scope body = true
structure GOk (g : GMap) (F : Nat → Option MFun) (B : Heap) (mg mb : Str → Option Value) : Prop where
  ng : B.Ns mainGlobals mg
  nb : B.Ns builtinsNs mb
  lim : B.NoLimit
  fn : ∀ x f, g.lookup x = some (.fn f) → ∃ a, mg x = some (.ref a) ∧ FnAt g F B f a
  const : ∀ x v, g.lookup x = some (.const v) → ∃ u, mg x = some u ∧ VRel [] v u
  ty : ∀ x T, g.lookup x = some (.ty T) → mg x = none ∧ mb x = some (.type T)
  bi : ∀ x T, g.lookup x = some (.bi T) → mg x = none ∧ mb x = some (.builtin T)
  cls : ∀ x c, g.lookup x = some (.cls c) → mg x = some (.ref (clsK B c)) ∧ ExcCls B c
  tab : ∀ f, g.lookup tabNm = some (.tab f) → mg tabNm = some (.ref (tabK B)) ∧ TabOk g F B f
  kinds : ∀ x, g.lookup x = some .kinds → ∃ a, mg x = some (.ref a) ∧ KdAt g B a

noncomputable def CS (n : Nat) (C : Cf) (prog : Program) (w : World) (g : GMap) (F : Nat → Option MFun) (B : Heap) : Prop :=
  ∀ (f : Nat) (a : Addr) (vs : List Val) (ws : List Value) (μ : List Addr) (σ : MH) (s : Shared) (A : Around) (X : XE) (Q : Value → Shared → Prop), FnAt g F B f a → AOk0 n A → HRel B μ σ s.heap → A.frames = some X.l → FrOk B X.l μ s.heap → VsRel μ vs ws →
    Post B X VRel μ s Q (C f vs σ) → codeAny (model prog w) A (.call (.ref a) ⟨ws, []⟩) (fun r s' => match r with | .ok (.ret v) => Q v s' | .ok _ => False | .error e => X.E e s') s

section
variable {n : Nat} {C : Cf} {prog : Program} {w : World} {B : Heap} {sc : Scope} {sm : List (Str × Nat)} {g : GMap} {F : Nat → Option MFun} {mg mb : Str → Option Value}
variable {env : Env} {ρ : Rho} {σ : MH} {μ : List Addr} {s : Shared} {A : Around} {E : Value → Shared → Prop} {X : XE}

theorem globK_split {x : Str} {i : GI} (h : globK g sc x i = true) : sc.names.lookup x = some .globalImplicit ∧ nameOk x = true ∧ g.lookup x = some i := by
  unfold globK at h; simp only [Bool.and_eq_true, beq_iff_eq] at h; exact ⟨h.1.1, h.1.2, h.2⟩
theorem Ns_base {h : Heap} {a : Addr} {m : Str → Option Value} (r : HRel B μ σ h) (x : B.Ns a m) : h.Ns a m := Ns_at x fun o e => r.base _ o e

theorem glob_some {x : Str} {i : GI} {pos : Pos} {v : Value} {Q : Value → Shared → Prop} (G : GOk g F B mg mb) (h : globK g sc x i = true) (cx : Cx n B X A env sc sm ρ μ σ s.heap) (hv : mg x = some v) (hQ : Q v s) : wpAny (model prog w) A (eval (.Name x pos) env) Q E s := by
  obtain ⟨h1, h2, h3⟩ := globK_split h
  refine Calls.Name_function_global cx.frm.kind (by rw [cx.kind]; exact h1) (Calls.loadGlobal_global (mg := mg) ?_ hv hQ) (nameOk_1 h2)
  rw [cx.frm.glob]; exact Ns_base cx.rel G.ng
theorem glob_none {x : Str} {i : GI} {pos : Pos} {v : Value} {Q : Value → Shared → Prop} (G : GOk g F B mg mb) (h : globK g sc x i = true) (cx : Cx n B X A env sc sm ρ μ σ s.heap) (hv : mg x = none ∧ mb x = some v) (hQ : Q v s) : wpAny (model prog w) A (eval (.Name x pos) env) Q E s := by
  obtain ⟨h1, h2, h3⟩ := globK_split h
  refine Calls.Name_function_global cx.frm.kind (by rw [cx.kind]; exact h1) (Calls.loadGlobal_builtin (mg := mg) (mb := mb) ?_ hv.1 ?_ hv.2 hQ) (nameOk_1 h2)
  · rw [cx.frm.glob]; exact Ns_base cx.rel G.ng
  · rw [cx.frm.bl]; exact Ns_base cx.rel G.nb

theorem se_gconst {v : Val} {x : Str} {pos : Pos} (G : GOk g F B mg mb) (h : globK g sc x (.const v) = true) : SE n C prog w B sc sm (.gconst v) (.Name x pos) := fun {env ρ σ μ s A X Q} cx p => by
  have p : Post B X VRel μ s Q (.ok v σ) := p
  obtain ⟨u, e, r⟩ := G.const x v (globK_split h).2.2
  exact glob_some G h cx e (p.here' cx.rel (r.mono List.nil_prefix))

theorem star_cons {e : Expr} {r : List Expr} (h : isStar e = false) : starEach (e :: r) env = (false, eval e env) :: starEach r env := by
  cases e <;> first | rfl | exact (Bool.false_ne_true h.symm).elim

theorem ss_nil : SS n C prog w B sc sm .nil [] := fun {env ρ σ μ s A X Q} pos cx p => by
  have p : Post B X VsRel μ s Q (.ok [] σ) := p
  exact wpAny_items_nil (p.here' cx.rel rfl)
theorem ss_cons {a b : MExpr} {e : Expr} {r : List Expr} (hs : isStar e = false) (ha : SE n C prog w B sc sm a e) (hb : SS n C prog w B sc sm b r) : SS n C prog w B sc sm (.cons a b) (e :: r) := fun {env ρ σ μ s A X Q} pos cx p => by
  have p : Post B X VsRel μ s Q (((sem C a).E ρ σ).bind fun v h => ((sem C b).Es ρ h).bind fun vs h => .ok (v :: vs) h) := p
  refine wpAny_items_cons (ha.bind cx p fun v σ1 μ1 v' h1 tk cx1 _ hv q => hb.bind cx1 q fun vs σ2 μ2 vs' h2 tk2 cx2 st2 hvs q2 => ?_) (star_cons hs)
  exact Post.here' (s := { s with heap := h2, toks := tk2 }) cx2.rel q2 (VsRel.cons (hv.mono st2.pre) hvs)

noncomputable def NoStar (es : List Expr) : Prop := ∀ e ∈ es, isStar e = false
theorem noStar_back {es : List Expr} (h : NoStar es) {pos : Pos} : (backTo pos (starEach es env)).any (·.1) = false := by
  induction es with
  | nil => rfl
  | cons e r ih =>
    rw [star_cons (h e (.head _))]
    show (false || (backTo pos (starEach r env)).any (·.1)) = false
    rw [ih fun x hx => h x (.tail _ hx)]; rfl
theorem args_eq {f : Value} {es : List Expr} {pos : Pos} {Q : Args → Shared → Prop} (h : NoStar es) (k : wpAny (model prog w) A (spliced (backTo pos (starEach es env))) (fun vs s' => Q ⟨vs, []⟩ s') E s) :
    wpAny (model prog w) A (evalArgs f true (backTo pos (starEach es env)) []) Q E s := by
  cases es with
  | nil =>
    unfold evalArgs
    show wpAny (model prog w) A (spliced [] >>= _) Q E s
    refine wpAny_bind (wpAny_mono k (fun vs s' hq => ?_) fun _ _ h => h)
    refine wpAny_bind (wpAny_pure ?_)
    refine wpAny_holding ?_
    exact wpAny_bind (wpAny_pure (wpAny_bind (wpAny_pure (wpAny_pure hq))))
  | cons e r =>
    rw [star_cons (h e (.head _))] at k ⊢
    exact Calls.evalArgs_plain k

theorem se_call [Small n] {f : Nat} {args : MExpr} {x : Str} {es : List Expr} {p1 pos : Pos} (G : GOk g F B mg mb) (cs : CS n C prog w g F B) (h : globK g sc x (.fn f) = true) (ns : NoStar es) (ha : SS n C prog w B sc sm args es) :
    SE n C prog w B sc sm (.call f args) (.Call (.Name x p1) es [] pos) := fun {env ρ σ μ s A X Q} cx p => by
  have p : Post B X VRel μ s Q (((sem C args).Es ρ σ).bind fun vs h => C f vs h) := p
  obtain ⟨a, e, fa⟩ := G.fn x f (globK_split h).2.2
  have ⟨o, fd, body, names, d, ho, hd, _⟩ := fa
  refine wpAny_Call_Name_kw (glob_some G h cx e ?_)
  show wpAny (model prog w) A (callWith pos (.ref a) [] (backTo pos (starEach es env)) []) Q X.E s
  refine Calls.callWith_function (o := o) (fd := fd) (args_eq ns (ha.bind cx p fun vs σ1 μ1 ws h1 tk cx1 _ hvs q => ⟨⟨cx1.rel.base _ _ ho, hd⟩, ?_⟩))
  exact wpAny_call (cs f a vs ws μ1 σ1 _ A X Q fa cx1.ok.low cx1.rel cx1.frames cx1.fok hvs q)

end
end Mine


-- part MiniSG
set_option maxRecDepth 4000
set_option linter.unusedVariables false
namespace Mine
open PySem

section
variable {n : Nat} {C : Cf} {prog : Program} {w : World} {B : Heap} {sc : Scope} {sm : List (Str × Nat)} {g : GMap} {F : Nat → Option MFun} {mg mb : Str → Option Value}
variable {env : Env} {ρ : Rho} {σ : MH} {μ : List Addr} {s : Shared} {A : Around} {E : Value → Shared → Prop} {X : XE}

theorem cmpB_sound {op : CmpOp} {v u : Val} {v' u' : Value} {α β : Type} {V : List Addr → α → β → Prop} {Q : β → Shared → Prop} {Q' : Value → Bool → Shared → Prop} {f : Bool → MH → Res α} (ok : AOk n A) (r : HRel B μ σ s.heap) (hv : VRel μ v v') (hu : VRel μ u u')
    (p : Post B X V μ s Q ((Res.opt (cmpV σ op v u) σ).bind f))
    (k : ∀ t σ1 μ1 h1 tk, HRel B μ1 σ1 h1 → Step μ μ1 s.heap h1 → Post B X V μ1 { s with heap := h1, toks := tk } Q (f t σ1) → Q' (.bool t) t { s with heap := h1, toks := tk }) :
    wpAny (model prog w) A (compareOp op v' u') (fun c s₃ => wpAny (model prog w) A (truthy c) (fun t s₄ => Q' c t s₄) E s₃) E s := by
  refine cmp_sound (X := X) ok r hv hu ?_
  cases q : cmpV σ op v u with
  | none => rw [q] at p; exact p.elim
  | some t =>
    rw [q] at p
    intro μ' c h' tk r' st hc
    rw [show c = .bool t from hc]
    exact wpAny_truthy_bool (k t σ μ' h' tk r' st (Post.step (x := f t σ) p st))

theorem se_cmp2 {o₁ o₂ : CmpOp} {a b c : MExpr} {l r₁ r₂ : Expr} {pos : Pos} (hm : lastMarks [o₁, o₂] [r₁, r₂] = false) (ha : SE n C prog w B sc sm a l) (hb : SE n C prog w B sc sm b r₁) (hc : SE n C prog w B sc sm c r₂) :
    SE n C prog w B sc sm (.cmp2 o₁ o₂ a b c) (.Compare l [o₁, o₂] [r₁, r₂] pos) := fun {env ρ σ μ s A X Q} cx p => by
  refine PyProof.Rows.Compare_chain (ha.bind cx p fun v σ1 μ1 v' h1 tk cx1 _ hv q => PyProof.Rows.chain_link (hb.bind cx1 q fun u σ2 μ2 u' h2 tk2 cx2 st2 hu q2 =>
    cmpB_sound (Q' := fun c t s₃ => if t then wpAny (model prog w) A (compareChain pos u' [o₂] [eval r₂ env]) Q X.E s₃ else Q c s₃) cx2.ok cx2.rel (hv.mono st2.pre) hu q2 fun t σ3 μ3 h3 tk3 r3 st3 q3 => ?_)) hm
  cases t with
  | false => exact Post.here' (s := { s with heap := h3, toks := tk3 }) r3 q3 rfl
  | true => exact PyProof.Rows.chain_last (hc.bind (cx2.step st3 r3) q3 fun x σ4 μ4 x' h4 tk4 cx4 st4 hx q4 => cmp_sound cx4.ok cx4.rel (hu.mono (st3.pre.trans st4.pre)) hx q4)
theorem st_cmp2 {o₁ o₂ : CmpOp} {a b c : MExpr} {l r₁ r₂ : Expr} {pos : Pos} (hm : lastMarks [o₁, o₂] [r₁, r₂] = false) (ha : SE n C prog w B sc sm a l) (hb : SE n C prog w B sc sm b r₁) (hc : SE n C prog w B sc sm c r₂) :
    ST n C prog w B sc sm (.cmp2 o₁ o₂ a b c) (.Compare l [o₁, o₂] [r₁, r₂] pos) := fun {env ρ σ μ s A X Q} cx p => by
  refine PyProof.Rows.isTrue_chain (ha.bind cx p fun v σ1 μ1 v' h1 tk cx1 _ hv q => PyProof.Rows.test_link (hb.bind cx1 q fun u σ2 μ2 u' h2 tk2 cx2 st2 hu q2 =>
    cmpB_sound (Q' := fun c t s₃ => if t then wpAny (model prog w) A (testChain pos u' [o₂] [eval r₂ env]) Q X.E s₃ else Q false s₃) cx2.ok cx2.rel (hv.mono st2.pre) hu q2 fun t σ3 μ3 h3 tk3 r3 st3 q3 => ?_)) hm
  cases t with
  | false => exact Post.here' (s := { s with heap := h3, toks := tk3 }) r3 q3 rfl
  | true => exact PyProof.Rows.test_last (hc.bind (cx2.step st3 r3) q3 fun x σ4 μ4 x' h4 tk4 cx4 st4 hx q4 => cmpT_sound cx4.ok cx4.rel (hu.mono (st3.pre.trans st4.pre)) hx q4)

/-- a call of a built-in function or type by its name -/
theorem call_bi {x : Str} {i : GI} {v : Value} {es : List Expr} {p1 pos : Pos} {Q : Value → Shared → Prop} (G : GOk g F B mg mb) (h : globK g sc x i = true) (hv : mg x = none ∧ mb x = some v) (hk : (∃ T, v = .type T) ∨ (∃ T, v = .builtin T)) (cx : Cx n B X A env sc sm ρ μ σ s.heap) (ns : NoStar es)
    (k : wpAny (model prog w) A (spliced (backTo pos (starEach es env))) (fun vs s₁ => wpAny (model prog w) A (call v vs) Q E s₁) E s) : wpAny (model prog w) A (eval (.Call (.Name x p1) es [] pos) env) Q E s := by
  refine wpAny_Call_Name_kw (glob_none G h cx hv ?_)
  show wpAny (model prog w) A (callWith pos v [] (backTo pos (starEach es env)) []) Q E s
  rcases hk with ⟨T, rfl⟩ | ⟨T, rfl⟩
  · exact callWith_type (noStar_back ns) (args_eq ns k)
  · exact Calls.callWith_builtin (noStar_back ns) (args_eq ns k)

theorem biGI_ok {b : BI} (G : GOk g F B mg mb) {x : Str} (h : g.lookup x = some (biGI b)) : (mg x = none ∧ mb x = some (biFn b)) ∧ ((∃ T, biFn b = .type T) ∨ (∃ T, biFn b = .builtin T)) := by
  cases b
  · exact ⟨G.bi x _ h, .inr ⟨_, rfl⟩⟩
  · exact ⟨G.bi x _ h, .inr ⟨_, rfl⟩⟩
  · exact ⟨G.bi x _ h, .inr ⟨_, rfl⟩⟩
  · exact ⟨G.bi x _ h, .inr ⟨_, rfl⟩⟩
  · exact ⟨G.ty x _ h, .inl ⟨_, rfl⟩⟩
  · exact ⟨G.ty x _ h, .inl ⟨_, rfl⟩⟩
  · exact ⟨G.bi x _ h, .inr ⟨_, rfl⟩⟩
  · exact ⟨G.ty x _ h, .inl ⟨_, rfl⟩⟩

theorem se_bi [Small n] {b : BI} {args : MExpr} {x : Str} {es : List Expr} {p1 pos : Pos} (G : GOk g F B mg mb) (h : globK g sc x (biGI b) = true) (ns : NoStar es) (ha : SS n C prog w B sc sm args es) :
    SE n C prog w B sc sm (.bi b args) (.Call (.Name x p1) es [] pos) := fun {env ρ σ μ s A X Q} cx p => by
  obtain ⟨h1, h2⟩ := biGI_ok G (globK_split h).2.2
  exact call_bi G h h1 h2 cx ns (ha.bind cx p fun vs σ1 μ1 ws h1 tk cx1 _ hvs q => bi_sound cx1.ok cx1.rel hvs q)

theorem one_spliced {e : Expr} {pos : Pos} {Q : List Value → Shared → Prop} (hs : isStar e = false) (k : wpAny (model prog w) A (eval e env) (fun v s₁ => Q [v] s₁) E s) : wpAny (model prog w) A (spliced (backTo pos (starEach [e] env))) Q E s :=
  wpAny_items_cons (wpAny_mono k (fun v s₁ q => wpAny_items_nil q) fun _ _ h => h) (star_cons hs)
theorem two_spliced {e e' : Expr} {pos : Pos} {Q : List Value → Shared → Prop} (hs : isStar e = false) (hs' : isStar e' = false) (k : wpAny (model prog w) A (eval e env) (fun v s₁ => wpAny (model prog w) A (eval e' env) (fun v' s₂ => Q [v, v'] s₂) E s₁) E s) : wpAny (model prog w) A (spliced (backTo pos (starEach [e, e'] env))) Q E s :=
  wpAny_items_cons (wpAny_mono k (fun v s₁ q => one_spliced hs' q) fun _ _ h => h) (star_cons hs)

theorem se_isinst {t : Ty} {a : MExpr} {x z : Str} {y : Expr} {p1 p2 pos : Pos} (G : GOk g F B mg mb) (h : globK g sc x (.bi "isinstance") = true) (hz : globK g sc z (.ty (tyName t)) = true) (hs : isStar y = false) (ha : SE n C prog w B sc sm a y) :
    SE n C prog w B sc sm (.isinst t a) (.Call (.Name x p1) [y, .Name z p2] [] pos) := fun {env ρ σ μ s A X Q} cx p => by
  refine call_bi G h (G.bi x _ (globK_split h).2.2) (.inr ⟨_, rfl⟩) cx (fun e he => ?_) (two_spliced hs rfl (ha.bind cx p fun v σ1 μ1 v' h1 tk cx1 _ hv q => glob_none G hz cx1 (G.ty z _ (globK_split hz).2.2) (isinst_sound cx1.rel hv q)))
  rcases List.mem_cons.mp he with rfl | he
  · exact hs
  · rw [List.mem_singleton.mp he]; rfl

theorem se_lst {a : MExpr} {es : List Expr} {pos : Pos} (ha : SS n C prog w B sc sm a es) : SE n C prog w B sc sm (.lst a) (.List es pos) := fun {env ρ σ μ s A X Q} cx p =>
  wpAny_List (ha.bind cx p fun vs σ1 μ1 ws h1 tk cx1 _ hvs q => ⟨by
    have := newList_len q; rw [hvs.length]; exact Nat.le_trans this (by decide), Post.newList (s := { s with heap := h1, toks := tk }) (n := 0) cx1.rel q (push_keep _ _) (Heap.get?_push_size _ rfl) hvs⟩)
theorem se_tup {a : MExpr} {es : List Expr} {k : Nat} {pos : Pos} (ha : SS n C prog w B sc sm a es) : SE n C prog w B sc sm (.tup a) (.Tuple es k pos) := fun {env ρ σ μ s A X Q} cx p =>
  wpAny_Tuple (ha.bind cx p fun vs σ1 μ1 ws h1 tk cx1 _ hvs q => by
    by_cases hl : vs.length ≤ lim
    · rw [if_pos hl] at q
      exact ⟨by rw [hvs.length]; exact Nat.le_trans hl (by decide), Post.new (s := { s with heap := h1, toks := tk }) cx1.rel q (push_keep _ _) ⟨hl, ws, 0, Heap.get?_push_size _ rfl, hvs.mono (List.prefix_append _ _)⟩⟩
    · rw [if_neg hl] at q; exact q.elim)

theorem se_sub {a b : MExpr} {l r : Expr} {pos : Pos} (hs : isSlice r = false) (ha : SE n C prog w B sc sm a l) (hb : SE n C prog w B sc sm b r) : SE n C prog w B sc sm (.sub a b) (.Subscript l r pos) := fun {env ρ σ μ s A X Q} cx p =>
  PyProof.Rows.Subscript_ (ha.bind cx p fun v σ1 μ1 v' h1 tk cx1 _ hv q => hb.bind cx1 q fun u σ2 μ2 u' h2 tk2 cx2 st2 hu q2 => sub_sound cx2.rel (hv.mono st2.pre) hu q2 (by
    cases r <;> first | rfl | exact (Bool.false_ne_true hs.symm).elim))

theorem base_ok {o : Expr} {name : Str} {whole : Sem Value} (h : baseOk o = true) : attributeBase o name env whole = whole := by
  cases o with
  | Call f es kw p =>
    cases f with
    | Name x q =>
      cases es with
      | nil =>
        cases kw with
        | nil => exact (Bool.false_ne_true h).elim
        | cons => rfl
      | cons => rfl
    | _ => rfl
  | _ => rfl

theorem me_type {v : Val} {v' : Value} (r : HRel B μ σ s.heap) (hv : VRel μ v v') (h : isLV σ v = true) : s.TypeIs v' "list" ∧ ∀ a, v' = .ref a → ∃ ob, s.heap.get? a = some ob ∧ ob.dict = none := by
  cases v with
  | ref i =>
    obtain ⟨a, ea, rfl⟩ := hv
    have h : isListAt σ i = true := h
    unfold isListAt at h
    split at h
    · rename_i xs hz
      obtain ⟨_, ys, k, gg, _⟩ := r.at ea hz
      exact ⟨⟨_, gg, rfl⟩, fun b q => by cases q; exact ⟨_, gg, rfl⟩⟩
    · cases h
  | _ => cases h
theorem me_typeS {v : Val} {v' : Value} (hv : VRel μ v v') (h : isSV v = true) : s.TypeIs v' "str" ∧ ∀ a, v' = .ref a → ∃ ob, s.heap.get? a = some ob ∧ ob.dict = none := by
  cases v with
  | str x => obtain ⟨_, t, rfl⟩ := hv; exact ⟨typeIs_str _ _ _, fun _ e => nomatch e⟩
  | _ => cases h
theorem me_slot {m : Me} {v : Val} {v' : Value} (r : HRel B μ σ s.heap) (hv : VRel μ v v') (h : meOk σ m v = true) : ∃ T, PlainAttrs T ∧ Slot T (meName m) (meFn m) ∧ typeOf (.builtin (meFn m)) = pure (.type "method_descriptor") ∧ s.TypeIs v' T ∧ ∀ a, v' = .ref a → ∃ ob, s.heap.get? a = some ob ∧ ob.dict = none := by
  cases m with
  | append => exact ⟨_, F.plainAttrs_list, F.slot_list_append, F.type_list_append, me_type r hv h⟩
  | split => exact ⟨_, F.plainAttrs_str, F.slot_str_split, F.type_str_split, me_typeS hv h⟩

theorem few_ok {es : List Expr} {pos : Pos} (ns : NoStar es) (hl : es.length < 20) : ((backTo pos (starEach es env)).all (fun x => !x.1) && (backToKw pos (keywordEach [] env)).all (fun x => x.1.isSome)
      && decide (es.length + ([] : List Keyword).length + (if ([] : List Keyword).isEmpty then 0 else 1) < 30)) = true := by
  have h1 := noStar_back (env := env) ns (pos := pos)
  have h2 : (backTo pos (starEach es env)).all (fun x => !x.1) = true := by
    rw [List.all_eq_true]; intro x hx
    rw [List.any_eq_false] at h1
    simpa using h1 x hx
  rw [h2]
  show (true && true && decide (es.length + 0 + 0 < 30)) = true
  simp only [Bool.true_and, decide_eq_true_eq]
  omega

theorem se_meth {m : Me} {o args : MExpr} {eo : Expr} {es : List Expr} {apos pos : Pos} (hb : baseOk eo = true) (hline : (apos.endLine == pos.line) = true) (hl : es.length < 20) (ns : NoStar es) (ho : SE n C prog w B sc sm o eo) (ha : SS n C prog w B sc sm args es) :
    SE n C prog w B sc sm (.meth m o args) (.Call (.Attribute eo (meName m) apos) es [] pos) := fun {env ρ σ μ s A X Q} cx p => by
  refine wpAny_Call_method_late (base_ok hb) (few_ok ns hl) hline rfl (ho.bind cx p fun v σ1 μ1 v' h1 tk cx1 _ hv q => ?_)
  by_cases hm : meOk σ1 m v = true
  · rw [if_pos hm] at q
    obtain ⟨T, k0, k1, k2, t1, t2⟩ := me_slot (s := { s with heap := h1, toks := tk }) cx1.rel hv hm
    refine ⟨T, meFn m, k0, k1, k2, t1, t2, ?_⟩
    exact Calls.callWith_builtin (noStar_back ns) (args_eq ns (ha.bind cx1 q fun vs σ2 μ2 ws h2 tk2 cx2 st2 hvs q2 => me_sound cx2.ok cx2.rel (hv.mono st2.pre) hvs q2))
  · rw [if_neg hm] at q; exact q.elim

end
end Mine


-- part MiniSH
set_option maxRecDepth 4000
set_option linter.unusedVariables false
namespace Mine
open PySem

section
variable (n : Nat) (C : Cf) (prog : Program) (w : World) (B : Heap) (sc : Scope) (sm : List (Str × Nat))
noncomputable def SO (m : MExpr) (x : Option Expr) : Prop :=
  ∀ {env ρ σ μ} {s : Shared} {A : Around} {X : XE} {Q : Value → Shared → Prop}, Cx n B X A env sc sm ρ μ σ s.heap → Post B X VRel μ s Q (((sem C m).Es ρ σ).bind fun vs h => Res.opt (optOf vs) h) → wpAny (model prog w) A (evalPart x env) Q X.E s
end

section
variable {n : Nat} {C : Cf} {prog : Program} {w : World} {B : Heap} {sc : Scope} {sm : List (Str × Nat)} {g : GMap} {F : Nat → Option MFun} {mg mb : Str → Option Value}
variable {env : Env} {ρ : Rho} {σ : MH} {μ : List Addr} {s : Shared} {A : Around} {E : Value → Shared → Prop} {X : XE}

theorem so_nil : SO n C prog w B sc sm .nil none := fun {env ρ σ μ s A X Q} cx p => by
  have p : Post B X VRel μ s Q (.ok .none σ) := p
  exact wpAny_pure (p.here' cx.rel rfl)
theorem so_cons {a : MExpr} {e : Expr} (ha : SE n C prog w B sc sm a e) : SO n C prog w B sc sm (.cons a .nil) (some e) := fun {env ρ σ μ s A X Q} cx p => by
  have p : Post B X VRel μ s Q ((((sem C a).E ρ σ).bind fun v h => (Res.ok [] h).bind fun vs h => .ok (v :: vs) h).bind fun vs h => Res.opt (optOf vs) h) := p
  rw [Res.bind_assoc] at p
  show wpAny (model prog w) A (eval e env) Q X.E s
  exact ha.bind cx p fun v σ1 μ1 v' h1 tk cx1 _ hv q => Post.here' (s := { s with heap := h1, toks := tk }) (v := v) cx1.rel q hv
theorem SO.bind {α β : Type} {m : MExpr} {x : Option Expr} {V : List Addr → α → β → Prop} {Q : β → Shared → Prop} {Q' : Value → Shared → Prop} {f : Val → MH → Res α} (h : SO n C prog w B sc sm m x) (cx : Cx n B X A env sc sm ρ μ σ s.heap)
    (p : Post B X V μ s Q ((((sem C m).Es ρ σ).bind fun vs h => Res.opt (optOf vs) h).bind f))
    (k : ∀ v σ1 μ1 v' h1 tk, Cx n B X A env sc sm ρ μ1 σ1 h1 → Step μ μ1 s.heap h1 → VRel μ1 v v' → Post B X V μ1 { s with heap := h1, toks := tk } Q (f v σ1) → Q' v' { s with heap := h1, toks := tk }) : wpAny (model prog w) A (evalPart x env) Q' X.E s :=
  h cx (p.bindR fun v σ1 μ1 v' h1 tk r st hv q => k v σ1 μ1 v' h1 tk (cx.step st r) st hv q)

theorem slice_sound {v lo hi : Val} {v' lo' hi' : Value} {value slice : Expr} {Q : Value → Shared → Prop} (r : HRel B μ σ s.heap) (hv : VRel μ v v') (hlo : VRel μ lo lo') (hhi : VRel μ hi hi') (p : Post B X VRel μ s Q (sliceV σ v lo hi))
    (hs : ∀ i, subscripted slice false v' i = operate [i, v'] (getItem v' i)) :
    wpAny (model prog w) A (PyProof.Rows.subscriptTail value slice v' (.ref s.heap.objs.size)) Q E { s with heap := s.heap.push { cls := .type "slice", data := .fields #[lo', hi', .none] } } := by
  cases v with
  | ref i =>
    cases hq : σ[i]? with
    | none => simp only [sliceV, hq] at p; exact p.elim
    | some o =>
      cases o with
      | list xs =>
        simp only [sliceV, hq] at p
        unfold sliceL at p
        split at p
        · rename_i a b ha hb; exact slice_list_sound r hq hv hlo hhi ha hb p hs
        · exact p.elim
      | _ => simp only [sliceV, hq] at p; exact p.elim
  | str x =>
    have p : Post B X VRel μ s Q (sliceS σ x lo hi) := p
    unfold sliceS at p
    split at p
    · rename_i a b ha hb; exact slice_str_sound r hv hlo hhi ha hb p hs
    · exact p.elim
  | _ => exact p.elim

theorem se_slice {a lo hi : MExpr} {l : Expr} {x y : Option Expr} {p1 pos : Pos} (ha : SE n C prog w B sc sm a l) (hlo : SO n C prog w B sc sm lo x) (hhi : SO n C prog w B sc sm hi y) :
    SE n C prog w B sc sm (.slice a lo hi) (.Subscript l (.Slice x y none p1) pos) := fun {env ρ σ μ s A X Q} cx p =>
  PyProof.Rows.Subscript_ (ha.bind cx p fun v σ1 μ1 v' h1 tk cx1 _ hv q => wpAny_Slice (hlo.bind cx1 q fun u σ2 μ2 u' h2 tk2 cx2 st2 hu q2 => hhi.bind cx2 q2 fun z σ3 μ3 z' h3 tk3 cx3 st3 hz q3 =>
    wpAny_pure (slice_sound (s := { s with heap := h3, toks := tk3 }) cx3.rel (hv.mono (st2.pre.trans st3.pre)) (hu.mono st3.pre) hz q3 fun i => rfl)))

theorem rangeSize_of (a b : Int) : Builtin.Range.rangeSize a b 1 = ((b - a).toNat : Int) := by
  unfold Builtin.Range.rangeSize
  rw [if_pos (by omega)]
  split
  · rw [Int.ediv_one]; omega
  · omega

theorem range_iter {a b : Int} {r : Addr} {t u v : Tok} {Q : Value → Shared → Prop} (rel : HRel B μ σ s.heap) (hr : IsRange s.heap r a b 1 t u v) (hok : rangeOk a b = true)
    (p : PostI prog w B X μ s Q (.ok (rangeVals a (b - a).toNat, fun _ => true) σ)) : wpAny (model prog w) A (pyIter (.ref r)) Q E s := by
  have hlim : lim = 1048576 := rfl
  unfold rangeOk at hok
  simp only [Bool.and_eq_true, decide_eq_true_eq] at hok
  refine wpAny_pyIter_range hr ?_ ?_
  · exact small_one (by omega) (by omega) (by omega) (by omega)
  · refine p μ _ (fun i h => IsRangeIter h s.heap.objs.size (a + (i : Nat)) (((b - a).toNat : Int) - (i : Nat)) 1) _ _ (rel.grow (push_keep _ _)) (Step.grow (push_keep _ _)) rel.fresh rel.freshB (size_none _) iter_range ?_ rfl (by rw [rangeVals_length]; omega)
    show (s.heap.push _).get? s.heap.objs.size = _
    rw [Heap.get?_push_size _ rfl, rangeSize_of]
    simp

theorem call_range1 {v : Val} {v' : Value} {Q : Value → Shared → Prop} (rel : HRel B μ σ s.heap) (hv : VRel μ v v') (p : PostI prog w B X μ s Q (irangeV v σ)) : wpAny (model prog w) A (call (.type "range") [v']) (fun x s₁ => wpAny (model prog w) A (pyIter x) Q E s₁) E s := by
  unfold irangeV at p
  split at p
  · rename_i k
    obtain ⟨t, rfl⟩ := hv
    split at p
    · rename_i hok
      refine call_range_1 (range_iter (X := X) (s := { s with heap := s.heap.push _, toks := s.toks + 1 + 1 }) (rel.grow (push_keep _ _)) (Heap.get?_push_size _ rfl) hok ?_)
      rw [Int.sub_zero]
      intro μ' I At h' tk r' st a1 a2 a3 a4 a5 a6 a7
      refine p μ' I At h' tk r' ((Step.grow (push_keep _ _)).trans st) a1 a2 ?_ a4 a5 a6 a7
      cases e : s.heap.get? I with
      | none => rfl
      | some o => rw [Heap.get?_push_of_some _ e] at a3; cases a3
    · exact p.elim
  · exact p.elim
theorem call_range2 {v u : Val} {v' u' : Value} {Q : Value → Shared → Prop} (rel : HRel B μ σ s.heap) (hv : VRel μ v v') (hu : VRel μ u u') (p : PostI prog w B X μ s Q (irange2V v u σ)) : wpAny (model prog w) A (call (.type "range") [v', u']) (fun x s₁ => wpAny (model prog w) A (pyIter x) Q E s₁) E s := by
  unfold irange2V at p
  split at p
  · rename_i k
    obtain ⟨t, rfl⟩ := hv
    obtain ⟨t', rfl⟩ := hu
    split at p
    · rename_i hok
      refine call_range_2 (range_iter (X := X) (s := { s with heap := s.heap.push _, toks := s.toks + 1 }) (rel.grow (push_keep _ _)) (Heap.get?_push_size _ rfl) hok ?_)
      intro μ' I At h' tk r' st a1 a2 a3 a4 a5 a6 a7
      refine p μ' I At h' tk r' ((Step.grow (push_keep _ _)).trans st) a1 a2 ?_ a4 a5 a6 a7
      cases e : s.heap.get? I with
      | none => rfl
      | some o => rw [Heap.get?_push_of_some _ e] at a3; cases a3
    · exact p.elim
  · exact p.elim

theorem PostI.step {Q : Value → Shared → Prop} {x : Res Src} {μ' : List Addr} {h' : Heap} {tk : Nat} (p : PostI prog w B X μ s Q x) (st : Step μ μ' s.heap h') : PostI prog w B X μ' { s with heap := h', toks := tk } Q x := by
  cases x with
  | ok v σ' =>
    obtain ⟨xs, ck⟩ := v
    intro μ'' I At h'' tk' r st' a1 a2 a3 a4 a5 a6 a7
    refine p μ'' I At h'' tk' r (st.trans st') a1 a2 ?_ a4 a5 a6 a7
    cases e : s.heap.get? I with
    | none => rfl
    | some o =>
      by_cases hm : I ∈ μ
      · exact absurd (st.pre.trans st'.pre |>.subset hm) a1
      · obtain ⟨o', e', _⟩ := look_elim (st.keep I _ hm (look_of e)); rw [e'] at a3; cases a3
  | exc c h => exact PostX.step p st
  | stuck => exact p
theorem PostI.bindR {γ δ : Type} {W : List Addr → γ → δ → Prop} {Q : Value → Shared → Prop} {Q' : δ → Shared → Prop} {r : Res γ} {f : γ → MH → Res Src} (p : PostI prog w B X μ s Q (r.bind f))
    (k : ∀ v σ1 μ1 v' h1 tk, HRel B μ1 σ1 h1 → Step μ μ1 s.heap h1 → W μ1 v v' → PostI prog w B X μ1 { s with heap := h1, toks := tk } Q (f v σ1) → Q' v' { s with heap := h1, toks := tk }) : Post B X W μ s Q' r := by
  cases r with
  | ok v σ1 => intro μ1 v' h1 tk r1 st hv; exact k v σ1 μ1 v' h1 tk r1 st hv (PostI.step (x := f v σ1) p st)
  | exc c h => exact p
  | stuck => exact p
theorem SE.bindI {m : MExpr} {e : Expr} {Q Q' : Value → Shared → Prop} {f : Val → MH → Res Src} (h : SE n C prog w B sc sm m e) (cx : Cx n B X A env sc sm ρ μ σ s.heap)
    (p : PostI prog w B X μ s Q (((sem C m).E ρ σ).bind f))
    (k : ∀ v σ1 μ1 v' h1 tk, Cx n B X A env sc sm ρ μ1 σ1 h1 → Step μ μ1 s.heap h1 → VRel μ1 v v' → PostI prog w B X μ1 { s with heap := h1, toks := tk } Q (f v σ1) → Q' v' { s with heap := h1, toks := tk }) : wpAny (model prog w) A (eval e env) Q' X.E s :=
  h cx (p.bindR fun v σ1 μ1 v' h1 tk r st hv q => k v σ1 μ1 v' h1 tk (cx.step st r) st hv q)

theorem noStar_one {e : Expr} (h : isStar e = false) : NoStar [e] := fun x hx => by rw [List.mem_singleton.mp hx]; exact h
theorem noStar_two {e e' : Expr} (h : isStar e = false) (h' : isStar e' = false) : NoStar [e, e'] := fun x hx => by
  rcases List.mem_cons.mp hx with rfl | hx
  · exact h
  · rw [List.mem_singleton.mp hx]; exact h'

theorem si_range {a : MExpr} {x : Str} {y : Expr} {p1 pos : Pos} (G : GOk g F B mg mb) (h : globK g sc x (.ty "range") = true) (hs : isStar y = false) (ha : SE n C prog w B sc sm a y) : SI n C prog w B sc sm (.irange a) (.Call (.Name x p1) [y] [] pos) :=
  ⟨fun _ _ => rfl, fun {env ρ σ μ s A X Q} cx p => call_bi G h (G.ty x _ (globK_split h).2.2) (.inl ⟨_, rfl⟩) cx (noStar_one hs) (one_spliced hs (ha.bindI cx p fun v σ1 μ1 v' h1 tk cx1 _ hv q => call_range1 cx1.rel hv q))⟩
theorem si_range2 {a b : MExpr} {x : Str} {y z : Expr} {p1 pos : Pos} (G : GOk g F B mg mb) (h : globK g sc x (.ty "range") = true) (hs : isStar y = false) (hs' : isStar z = false) (ha : SE n C prog w B sc sm a y) (hb : SE n C prog w B sc sm b z) : SI n C prog w B sc sm (.irange2 a b) (.Call (.Name x p1) [y, z] [] pos) :=
  ⟨fun _ _ => rfl, fun {env ρ σ μ s A X Q} cx p => call_bi G h (G.ty x _ (globK_split h).2.2) (.inl ⟨_, rfl⟩) cx (noStar_two hs hs') (two_spliced hs hs' (ha.bindI cx p fun v σ1 μ1 v' h1 tk cx1 _ hv q => hb.bindI cx1 q fun u σ2 μ2 u' h2 tk2 cx2 st2 hu q2 => call_range2 cx2.rel (hv.mono st2.pre) hu q2))⟩

theorem src_list {i : Nat} {a : Addr} {xs : List Val} {ck : MH → Bool} {Q : Value → Shared → Prop} (rel : HRel B μ σ s.heap) (ea : μ[i]? = some a) (hq : seqOf σ i = some (true, xs)) (hck : ∀ σ', ck σ' = true → seqOf σ' i = some (true, xs)) (h0 : ck σ = true)
    (p : PostI prog w B X μ s Q (.ok (xs, ck) σ)) : wpAny (model prog w) A (pyIter (.ref a)) Q E s := by
  obtain ⟨l, ys, m, hy, gg⟩ := rel.seq ea hq
  refine wpAny_pyIter_list (isList_of gg) (p μ _ (fun j h => h.IsListIter s.heap.objs.size a j) _ _ (rel.grow (push_keep _ _)) (Step.grow (push_keep _ _)) rel.fresh rel.freshB (size_none _) (iter_list ea hck) ⟨_, Heap.get?_push_size _ rfl, rfl, rfl⟩ h0 l)

theorem si_obj {a : MExpr} {e : Expr} (hset : ∀ env x, foldedSetIterable e env x = pure x) (ha : SE n C prog w B sc sm a e) : SI n C prog w B sc sm (.iobj a) e :=
  ⟨hset, fun {env ρ σ μ s A X Q} cx p => ha.bindI cx p fun v σ1 μ1 v' h1 tk cx1 _ hv q => by
    cases v with
    | ref i =>
      obtain ⟨ad, ea, rfl⟩ := hv
      cases hx : σ1[i]? with
      | none => simp only [srcOf, hx] at q; exact q.elim
      | some o =>
        cases o with
        | list xs =>
          simp only [srcOf, hx] at q
          exact src_list (s := { s with heap := h1, toks := tk }) cx1.rel ea (by unfold seqOf; rw [hx]) (fun σ' c => by unfold seqOf; rw [of_decide_eq_true c]) (decide_eq_true hx) q
        | ro xs =>
          simp only [srcOf, hx] at q
          exact src_list (s := { s with heap := h1, toks := tk }) cx1.rel ea (by unfold seqOf; rw [hx]) (fun σ' c => by unfold seqOf; rw [of_decide_eq_true c]) (decide_eq_true hx) q
        | _ => simp only [srcOf, hx] at q; exact q.elim
    | str x =>
      obtain ⟨l, t, rfl⟩ := hv
      have q : PostI prog w B X μ1 { s with heap := h1, toks := tk } Q (Res.opt (if x.all (fun c => decide (c < 128)) then some (x.map fun c => .str [c], fun _ => true) else none) σ1) := q
      split at q
      · rename_i ha
        refine wpAny_pyIter_ascii (s := { s with heap := h1, toks := tk }) (by simpa using ha) (q μ1 _ (fun j h => h.IsStrIter h1.objs.size "str_ascii_iterator" ⟨x.toArray⟩ t j) _ _ (cx1.rel.grow (push_keep _ _)) (Step.grow (push_keep _ _)) cx1.rel.fresh cx1.rel.freshB (size_none _) iter_str ⟨_, Heap.get?_push_size _ rfl, rfl, rfl⟩ rfl (by rw [List.length_map]; exact l))
      · exact q.elim
    | _ => exact q.elim⟩

end
end Mine


-- part MiniCls
set_option maxRecDepth 4000
set_option linter.unusedVariables false
namespace Mine
open PySem

theorem attr_obj : ∀ k, k < 3 → typeLookup (.type "object") (attrName k) = pure none := fun k hk => by
  have : k = 0 ∨ k = 1 ∨ k = 2 := by omega
  rcases this with rfl | rfl | rfl
  · rw [typeLookup_type, builtinLookup_eq_fast]; kernel_rfl
  · rw [typeLookup_type, builtinLookup_eq_fast]; kernel_rfl
  · rw [typeLookup_type, builtinLookup_eq_fast]; kernel_rfl
theorem obj_lookup (nm : Str) : ∃ y, typeLookup (.type "object") nm = pure y := by
  rw [typeLookup_type]
  have : ∃ y, builtinLookup "object" nm = some y := by
    unfold builtinLookup
    exact ⟨_, rfl⟩
  obtain ⟨y, e⟩ := this
  rw [e]; exact ⟨y, rfl⟩

theorem attrName_inj {k j : Nat} (hk : k < 3) (hj : j < 3) (e : attrName j = attrName k) : j = k := by
  have h1 : k = 0 ∨ k = 1 ∨ k = 2 := by omega
  have h2 : j = 0 ∨ j = 1 ∨ j = 2 := by omega
  rcases h1 with rfl | rfl | rfl <;> rcases h2 with rfl | rfl | rfl <;> first | rfl | (exact absurd e (by decide +kernel))
theorem isTab_elim {g : GMap} (h : isTab (g.lookup tabNm) = true) : ∃ f, g.lookup tabNm = some (.tab f) := by
  unfold isTab at h
  split at h
  · rename_i f e; exact ⟨f, e⟩
  · cases h

section
variable {n : Nat} {C : Cf} {prog : Program} {w : World} {B : Heap} {sc : Scope} {sm : List (Str × Nat)} {g : GMap} {F : Nat → Option MFun} {mg mb : Str → Option Value}
variable {env : Env} {ρ : Rho} {σ : MH} {μ : List Addr} {s : Shared} {A : Around} {E : Value → Shared → Prop} {X : XE}

theorem handed {v : Val} {v' : Value} (h : VRel μ v v') : handedOut v' = pure v' := by
  cases v with
  | none => rw [show v' = _ from h]; rfl
  | bool b => rw [show v' = _ from h]; rfl
  | int i => obtain ⟨t, rfl⟩ := h; rfl
  | str x => obtain ⟨_, t, rfl⟩ := h; rfl
  | ref i => obtain ⟨a, _, rfl⟩ := h; rfl

/-- what an instance of ours is -/
theorem HRel.inst {h : Heap} (r : HRel B μ σ h) {i : Nat} {a : Addr} {fs : List (Option Val)} (e : μ[i]? = some a) (q : σ[i]? = some (.inst fs)) : ∃ dx mA, σ[i + 1]? = some .aux ∧ μ[i + 1]? = some dx ∧ dx ≠ a ∧ h.Inst a (tabK B) mA ∧ (∀ o, h.get? a = some o → o.dict = some dx) ∧
    (∀ (k : Nat) (v : Val), k < 3 → fs[k]? = some (some v) → ∃ w, mA (attrName k) = some w ∧ VRel μ v w) ∧ (∀ y, mA y ≠ none → y ∈ [attrName 0, attrName 1, attrName 2]) := by
  obtain ⟨h1, dx, h2, o, mA, i1, i2, i3, i4, i5, i6, i7, i8⟩ := r.ins i a fs e q
  exact ⟨dx, mA, h1, h2, i5, ⟨o, i1, i2, i4, .inr ⟨dx, i3, i5, i6⟩⟩, fun o' e' => by rw [i1] at e'; cases e'; exact i3, i7, i8⟩

theorem attr_sound {k : Nat} {v : Val} {v' : Value} {expr : Bool} {Q : Value → Shared → Prop} {f : Nat} (T : TabOk g F B f) (hk : k < 3) (r : HRel B μ σ s.heap) (hv : VRel μ v v') (p : Post B X VRel μ s Q (attrV k v σ)) : wpAny (model prog w) A (getAttr v' (attrName k) expr) Q E s := by
  obtain ⟨N, mN, TC, _, t1, t2, t3, t4, _⟩ := T
  cases v with
  | ref i =>
    obtain ⟨a, ea, rfl⟩ := hv
    have p : Post B X VRel μ s Q (match σ[i]? with | some (.inst fs) => fieldV σ fs[k]? | some (.list _) => .stuck | some (.ro _) => .stuck | some (.tup _) => .stuck | some .aux => .stuck | none => .stuck) := p
    cases q : σ[i]? with
    | none => rw [q] at p; exact p.elim
    | some o =>
      rw [q] at p
      cases o with
      | inst fs =>
        have p : Post B X VRel μ s Q (fieldV σ fs[k]?) := p
        cases qf : fs[k]? with
        | none => rw [qf] at p; exact p.elim
        | some x =>
          rw [qf] at p
          cases x with
          | none => exact p.elim
          | some u =>
            have p : Post B X VRel μ s Q (.ok u σ) := p
            obtain ⟨dx, mA, _, _, _, I, _, i7, _⟩ := r.inst ea q
            obtain ⟨w', e1, e2⟩ := i7 k u hk qf
            obtain ⟨nm, q', bs, sn, sub, col, dd, k0, k1, k2, k3, k5, hC⟩ := (TC.keeps fun b o e => r.base b o e).obj
            obtain ⟨hh, gg, d, t, os⟩ := s
            exact load_attr hC (TC.keeps fun b o e => r.base b o e).ns t1 (t4 k hk) (attr_obj k hk) I e1 (handed e2) (p.here (s := ⟨hh, gg, d, t, os⟩) r e2)
      | _ => exact p.elim
  | _ => exact p.elim

theorem se_attr {o : MExpr} {k : Nat} {x : Str} {px pos : Pos} (G : GOk g F B mg mb) (ht : isTab (g.lookup tabNm) = true) (hk : k < 3) (ho : SE n C prog w B sc sm o (.Name x px)) : SE n C prog w B sc sm (.attr o k) (.Attribute (.Name x px) (attrName k) pos) := fun {env ρ σ μ s A X Q} cx p => by
  obtain ⟨f, hf⟩ := isTab_elim ht
  rw [arm_eval_Attribute]
  refine wpAny_bind ?_
  show wpAny (model prog w) A (eval (.Name x px) env) _ X.E s
  refine ho.bind cx p fun v σ1 μ1 v' h1 tk cx1 _ hv q => wpAny_bind (wpAny_standAt (wpAny_bind (wpAny_holding (wpAny_mono (attr_sound (G.tab f hf).2 hk cx1.rel hv q) (fun u s' hq => ?_) fun _ _ h => h))))
  show wpAny (model prog w) A ((pure () : Sem Unit) >>= fun _ => pure u) Q X.E s'
  exact wpAny_bind (wpAny_pure (wpAny_pure hq))

theorem isIV_elim {h : MH} {v : Val} (e : isIV h v = true) : ∃ i fs, v = .ref i ∧ h[i]? = some (.inst fs) := by
  cases v with
  | ref i =>
    have e : (match h[i]? with | some (.inst _) => true | some (.list _) => false | some (.ro _) => false | some (.tup _) => false | some .aux => false | none => false) = true := e
    cases q : h[i]? with
    | none => rw [q] at e; cases e
    | some o =>
      rw [q] at e
      cases o with
      | inst fs => exact ⟨i, fs, rfl, q⟩
      | _ => cases e
  | _ => cases e

theorem call_own {o : Expr} {name : Str} {apos pos : Pos} {args : List Expr} {Q : Value → Shared → Prop} (hbase : attributeBase o name env (eval o env) = eval o env)
    (hfew : ((backTo pos (starEach args env)).all (fun x => !x.1) && (backToKw pos (keywordEach [] env)).all (fun x => x.1.isSome) && decide (args.length + ([] : List Keyword).length + (if ([] : List Keyword).isEmpty then 0 else 1) < 30)) = true)
    (hline : (apos.endLine == pos.line) = true)
    (h : wpAny (model prog w) A (eval o env) (fun ov s₁ => ∀ pl, wpAny (model prog w) A (getMethod ov name pl) (fun fx s₂ => wpAny (model prog w) A (callWith pos fx.1 fx.2 (backTo pos (starEach args env)) []) Q E s₂) E s₁) E s) :
    wpAny (model prog w) A (eval (.Call (.Attribute o name apos) args [] pos) env) Q E s := by
  rw [arm_eval_Call, hbase]
  refine wpAny_bind (wpAny_mono h (fun ov s₁ h₁ => ?_) fun _ _ e => e)
  refine wpAny_bind (wpAny_standAt ?_)
  have hform : methodCallForm (args.length + ([] : List Keyword).length) (backTo pos (starEach args env)) (backToKw pos (keywordEach [] env)) = true := hfew
  have hpos : methodCallPos true o env apos pos = pure pos := by unfold methodCallPos; simp [hline]
  unfold methodCall
  rw [hform]
  refine wpAny_bind (wpAny_holding (wpAny_mono (h₁ _) (fun fx s₂ h₂ => ?_) fun _ _ e => e))
  exact wpAny_bind (wpAny_of_eq hpos h₂)

theorem se_mcall [Small n] {f : Nat} {o args : MExpr} {x nm : Str} {es : List Expr} {px apos pos : Pos} (G : GOk g F B mg mb) (cs : CS n C prog w g F B) (ht : isTab (g.lookup tabNm) = true) (hm : g.lookup (methKey nm) = some (.meth f)) (hn : nm ∉ [attrName 0, attrName 1, attrName 2])
    (hline : (apos.endLine == pos.line) = true) (hl : es.length < 20) (ns : NoStar es) (ho : SE n C prog w B sc sm o (.Name x px)) (ha : SS n C prog w B sc sm args es) : SE n C prog w B sc sm (.mcall f o args) (.Call (.Attribute (.Name x px) nm apos) es [] pos) := fun {env ρ σ μ s A X Q} cx p => by
  obtain ⟨f0, hf⟩ := isTab_elim ht
  obtain ⟨N, mN, TC, _, t1, t2, t3, t4, t5⟩ := (G.tab f0 hf).2
  obtain ⟨a', oF, m1, m2, m3, fa⟩ := t5 nm f hm
  have ⟨oF', fd, body, names, d, ho', hd, _⟩ := fa
  refine call_own rfl (few_ok ns hl) hline (ho.bind cx p fun v σ1 μ1 v' h1 tk cx1 _ hv q pl => ?_)
  by_cases hi : isIV σ1 v = true
  · rw [if_pos hi] at q
    obtain ⟨i, fs, rfl, qi⟩ := isIV_elim hi
    have hv' := hv
    obtain ⟨a, ea, rfl⟩ := hv
    obtain ⟨dx, mA, _, _, _, I, _, _, i8⟩ := cx1.rel.inst ea qi
    have kb : ∀ b o, B.get? b = some o → h1.get? b = some o := cx1.rel.base
    obtain ⟨nm', q', bs, sn, sub, col, dd, k0, k1, k2, k3, k5, hC⟩ := (TC.keeps kb).obj
    obtain ⟨y, hy⟩ := obj_lookup nm
    refine method_of hC (TC.keeps kb).ns t1 t2 m1 (kb _ _ m2) m3 hy I (Classical.byContradiction fun z => hn (i8 nm z)) ?_
    refine Calls.callWith_function (o := oF') (fd := fd) (args_eq ns (ha.bind cx1 q fun vs σ2 μ2 ws h2 tk2 cx2 st2 hvs q2 => ⟨⟨cx2.rel.base _ _ ho', hd⟩, ?_⟩))
    exact wpAny_call (cs f a' (.ref i :: vs) (.ref a :: ws) μ2 σ2 _ A X Q fa cx2.ok.low cx2.rel cx2.frames cx2.fok (.cons (hv'.mono st2.pre) hvs) q2)
  · rw [if_neg hi] at q; exact q.elim
end
end Mine


-- part MiniCls2
set_option maxRecDepth 4000
set_option linter.unusedVariables false
namespace Mine
open PySem

/-- an instance of ours changes -/
theorem HRel.updI {B : Heap} {μ : List Addr} {σ : MH} {h h' : Heap} (r : HRel B μ σ h) {i : Nat} {a dx : Addr} {fs fs' : List (Option Val)} (e : μ[i]? = some a) (q : σ[i]? = some (.inst fs)) (ed : μ[i + 1]? = some dx) (qd : σ[i + 1]? = some .aux)
    (k : ∀ b x, b ≠ a → b ≠ dx → h.get? b = some x → h'.get? b = some x) (ho : InstR B μ h' a dx fs') : HRel B μ (σ.set i (.inst fs')) h' := by
  have nb := r.new i a _ e q rfl
  have nd := r.new (i + 1) dx _ ed qd rfl
  have ⟨oa, _, ga, _, _, _, _, ⟨od, _, _, gd, _⟩, _⟩ := ho
  have li : i < σ.length := (List.getElem?_eq_some_iff.mp q).1
  refine ⟨by simp [r.len], r.inj, fun b x y => k b x (fun z => by rw [z, nb] at y; cases y) (fun z => by rw [z, nd] at y; cases y) (r.base b x y), fun j x p u v => ?_, fun j x p u v w => ?_, fun j x fs2 u v => ?_⟩
  · by_cases z : i = j
    · subst z
      rw [List.getElem?_set_self li] at v
      cases v; rw [e] at u; cases u; exact ⟨_, ga⟩
    · rw [List.getElem?_set_ne z] at v
      by_cases z2 : i + 1 = j
      · subst z2; rw [qd] at v; cases v; rw [ed] at u; cases u; exact ⟨_, gd⟩
      · exact (r.obj j x p u v).mono (List.prefix_refl _) fun ob y => k x ob (fun c => z (by subst c; exact r.inj i j x e u)) (fun c => z2 (by subst c; exact r.inj (i + 1) j x ed u)) y
  · by_cases z : i = j
    · subst z; rw [e] at u; cases u; exact nb
    · rw [List.getElem?_set_ne z] at v; exact r.new j x p u v w
  · by_cases z : i = j
    · subst z
      rw [List.getElem?_set_self li] at v
      cases v; rw [e] at u; cases u
      exact ⟨by rw [List.getElem?_set_ne (by omega)]; exact qd, dx, ed, ho⟩
    · rw [List.getElem?_set_ne z] at v
      obtain ⟨h1, dx', h2, h3⟩ := r.ins j x fs2 u v
      have z3 : i ≠ j + 1 := fun c => by subst c; rw [q] at h1; cases h1
      have z4 : i + 1 ≠ j := fun c => by subst c; rw [qd] at v; cases v
      have ne : ∀ {b : Addr} {m : Nat}, μ[m]? = some b → m ≠ i → m ≠ i + 1 → b ≠ a ∧ b ≠ dx := fun {b m} hb n1 n2 => ⟨fun c => n1 (by subst c; exact r.inj m i _ hb e), fun c => n2 (by subst c; exact r.inj m (i + 1) _ hb ed)⟩
      have n1 := ne u (Ne.symm z) (Ne.symm z4)
      have n2 := ne h2 (Ne.symm z3) (by omega)
      exact ⟨by rw [List.getElem?_set_ne z3]; exact h1, dx', h2, h3.mono (List.prefix_refl _) (fun ob y => k x ob n1.1 n1.2 y) (fun ob y => k dx' ob n2.1 n2.2 y)⟩

/-- a new instance -/
theorem HRel.allocI {B : Heap} {μ : List Addr} {σ : MH} {h h' : Heap} (r : HRel B μ σ h) {a dx : Addr} {fs : List (Option Val)} (k : ∀ b o, h.get? b = some o → h'.get? b = some o)
    (fa : a ∉ μ) (fd : dx ∉ μ) (ba : B.get? a = none) (bd : B.get? dx = none) (ho : InstR B (μ ++ [a, dx]) h' a dx fs) : HRel B (μ ++ [a, dx]) (σ ++ [.inst fs, .aux]) h' := by
  have ⟨oa, _, ga, _, _, _, ne, ⟨od, _, _, gd, _⟩, _⟩ := ho
  have len' := r.len
  have old : ∀ {i : Nat} {x : Addr}, (μ ++ [a, dx])[i]? = some x → (μ[i]? = some x ∧ i < μ.length) ∨ (x = a ∧ i = μ.length) ∨ (x = dx ∧ i = μ.length + 1) := fun {i x} e => by
    rcases Nat.lt_or_ge i μ.length with q | q
    · rw [List.getElem?_append_left q] at e; exact .inl ⟨e, q⟩
    · rw [List.getElem?_append_right q] at e
      obtain ⟨d, rfl⟩ : ∃ d, i = μ.length + d := ⟨i - μ.length, by omega⟩
      rw [Nat.add_sub_cancel_left] at e
      match d, e with
      | 0, e => cases e; exact .inr (.inl ⟨rfl, rfl⟩)
      | 1, e => cases e; exact .inr (.inr ⟨rfl, rfl⟩)
  have s0 : (σ ++ [MObj.inst fs, .aux])[μ.length]? = some (.inst fs) := by rw [len', List.getElem?_append_right (Nat.le_refl _), Nat.sub_self]; rfl
  have s1 : (σ ++ [MObj.inst fs, .aux])[μ.length + 1]? = some .aux := by rw [len', List.getElem?_append_right (by omega), Nat.add_sub_cancel_left]; rfl
  have m1 : (μ ++ [a, dx])[μ.length + 1]? = some dx := by rw [List.getElem?_append_right (by omega), Nat.add_sub_cancel_left]; rfl
  have mem : ∀ {i : Nat} {x : Addr}, μ[i]? = some x → x ∈ μ := fun e => List.mem_of_getElem? e
  refine ⟨by simp [len'], fun i j x e q => ?_, fun b o e => k b o (r.base b o e), fun i x o' e q => ?_, fun i x o' e q n => ?_, fun i x fs' e q => ?_⟩
  · rcases old e with ⟨e, _⟩ | ⟨rfl, e⟩ | ⟨rfl, e⟩ <;> rcases old q with ⟨q, _⟩ | ⟨q', q⟩ | ⟨q', q⟩
    · exact r.inj i j x e q
    · exact absurd (mem e) (q' ▸ fa)
    · exact absurd (mem e) (q' ▸ fd)
    · exact absurd (mem q) fa
    · omega
    · exact absurd q' (Ne.symm ne)
    · exact absurd (mem q) fd
    · exact absurd q' ne
    · omega
  · rcases old e with ⟨e, l⟩ | ⟨rfl, rfl⟩ | ⟨rfl, rfl⟩
    · rw [List.getElem?_append_left (by omega)] at q
      exact (r.obj i x o' e q).mono (List.prefix_append _ _) (k x)
    · rw [s0] at q; cases q; exact ⟨_, ga⟩
    · rw [s1] at q; cases q; exact ⟨_, gd⟩
  · rcases old e with ⟨e, l⟩ | ⟨rfl, e⟩ | ⟨rfl, e⟩
    · rw [List.getElem?_append_left (by omega)] at q
      exact r.new i x o' e q n
    · exact ba
    · exact bd
  · rcases old e with ⟨e, l⟩ | ⟨rfl, rfl⟩ | ⟨rfl, rfl⟩
    · rw [List.getElem?_append_left (by omega)] at q
      obtain ⟨h1, dx', h2, h3⟩ := r.ins i x fs' e q
      exact ⟨by rw [List.getElem?_append_left (List.getElem?_eq_some_iff.mp h1).1]; exact h1, dx', getElem?_prefix (List.prefix_append _ _) h2, h3.mono (List.prefix_append _ _) (k x) (k dx')⟩
    · rw [s0] at q; cases q; exact ⟨s1, _, m1, ho⟩
    · rw [s1] at q; cases q

section
variable {n : Nat} {C : Cf} {prog : Program} {w : World} {B : Heap} {sc : Scope} {sm : List (Str × Nat)} {g : GMap} {F : Nat → Option MFun} {mg mb : Str → Option Value}
variable {env : Env} {ρ : Rho} {σ : MH} {μ : List Addr} {s : Shared} {A : Around} {E : Value → Shared → Prop} {X : XE}

theorem callWith_cls0 {N Cc : Addr} {mN : Str → Option Value} {pos : Pos} {Q : Value → Shared → Prop} (TC : PyProof.Rows.ClsAt s.heap Cc N mN) (h : wpAny (model prog w) A (call (.ref Cc) []) Q E s) : wpAny (model prog w) A (callWith pos (.ref Cc) [] [] []) Q E s := by
  obtain ⟨hh, gg, d, t, os⟩ := s
  obtain ⟨nm, q, bs, sn, sub, col, dd, k0, k1, k2, k3, k5, hC⟩ := TC.obj
  unfold callWith
  refine wpAny_bind (wpAny_holding (PyProof.Rows.evalArgs_none ?_))
  have f1 := tc_lookup
  have hT : (⟨hh, gg, d, t, os⟩ : Shared).TypeIs (.ref Cc) "type" := ⟨_, hC, rfl⟩
  refine wpAny_bind (wpAny_standAt ?_)
  show wpAny _ _ (keeperOf (.ref Cc) >>= _) _ _ _
  unfold keeperOf specialOf
  have h2 : wpAny (model prog w) A (call (.ref Cc) [] [] >>= fun r => do holding [r] point; pure r) Q E ⟨hh, gg, d, t, os⟩ := wpAny_bind (wpAny_mono h (fun r s' hr => wpAny_bind (wpAny_holding (wpAny_point (wpAny_pure hr)))) fun _ _ x => x)
  repeat (any_goals (first | exact h2 | assumption | with_reducible refine wpAny_loadPart_at hC ?_ | with_reducible refine wpAny_load' hC ?_ | wp_step))

theorem under_ok [sn : Small n] {vals : List Value} {Cc : Addr} (ok : AOk n A) : AOk0 n (A.under (.builtin "type.__call__" ⟨.ref Cc :: vals, []⟩)) := by
  refine ⟨ok.handled, ?_, ?_⟩
  · have := ok.depth sn.lt; show A.depth + 1 + 2 * n < 900; omega
  · have := ok.units; have := sn.lt; have u : (Code.builtin "type.__call__" ⟨.ref Cc :: vals, []⟩).cUnits ≤ 10 := by first | decide | (unfold Code.cUnits Code.frames; by_cases q : (Code.builtin "type.__call__" ⟨.ref Cc :: vals, []⟩).isFrame = true <;> simp [q])
    show A.units + (Code.builtin "type.__call__" ⟨.ref Cc :: vals, []⟩).cUnits + 20 * n + 100 < 9900; omega

theorem se_newT [Small n] {f : Nat} {x : Str} {px pos : Pos} (G : GOk g F B mg mb) (cs : CS n C prog w g F B) (h : globK g sc x (.tab f) = true) (hx : x = tabNm) : SE n C prog w B sc sm (.newT f) (.Call (.Name x px) [] [] pos) := fun {env ρ σ μ s A X Q} cx p => by
  have p : Post B X VRel μ s Q (newTV σ (C f [.ref σ.length] (σ ++ [.inst [none, none, none], .aux]))) := p
  subst hx
  obtain ⟨hm, N, mN, TC, ⟨aI, oI, i1, i2, i3, fa⟩, t1, t2, t3, t4, t5⟩ := G.tab f (globK_split h).2.2
  refine wpAny_Call_Name_kw (glob_some G h cx hm ?_)
  show wpAny (model prog w) A (callWith pos (.ref (tabK B)) [] [] []) Q X.E s
  have kb : ∀ b o, B.get? b = some o → s.heap.get? b = some o := cx.rel.base
  refine callWith_cls0 (TC.keeps kb) ?_
  obtain ⟨nm, q, bs, sn, sub, col, dd, k0, k1, k2, k3, k5, hC⟩ := (TC.keeps kb).obj
  have nsN := (TC.keeps kb).ns
  have hI := kb _ _ i2
  obtain ⟨hh, gg, d, t, os⟩ := s
  refine wpAny_call_obj_init PySem.F.objNew hC nsN i1 hI i3 fun h' a dx Mk => ?_
  obtain ⟨o, io, ic, inc, id⟩ := Mk.inst
  have idd := Mk.dict o io
  have fm : ∀ b, hh.get? b = none → b ∉ μ := fun b e q => by obtain ⟨o, g⟩ := cx.rel.alive q; rw [e] at g; cases g
  have fb : ∀ b, hh.get? b = none → B.get? b = none := fun b e => by
    cases q : B.get? b with
    | none => rfl
    | some o => have := kb _ _ q; rw [e] at this; cases this
  have inst : InstR B (μ ++ [a, dx]) h' a dx [none, none, none] := by
    rcases id with ⟨z, _⟩ | ⟨d', e1, e2, e3⟩
    · rw [z] at idd; cases idd
    · rw [idd] at e1; cases e1
      refine ⟨o, _, io, ic, idd, inc, e2, e3, fun k v hk e => ?_, fun y hy => absurd rfl hy⟩
      have : k = 0 ∨ k = 1 ∨ k = 2 := by omega
      rcases this with rfl | rfl | rfl <;> cases e
  have r1 := cx.rel.allocI Mk.keeps (fm a Mk.newX) (fm dx Mk.newD) (fb a Mk.newX) (fb dx Mk.newD) inst
  have st1 : Step μ (μ ++ [a, dx]) hh h' := ⟨List.prefix_append _ _, fun b o _ e => look_keep (Mk.keeps b) e, fun b x y => by
    rcases List.mem_append.mp x with x | x
    · exact absurd x y
    · rcases List.mem_cons.mp x with rfl | x
      · exact Mk.newX
      · rw [List.mem_singleton.mp x]; exact Mk.newD⟩
  have va : (μ ++ [a, dx])[σ.length]? = some a := by rw [← cx.rel.len, List.getElem?_append_right (Nat.le_refl _), Nat.sub_self]; rfl
  refine wpAny_call (cs f aI [.ref σ.length] [.ref a] (μ ++ [a, dx]) _ ⟨h', gg, d, t, os⟩ _ X (fun r s' => r = .none ∧ Q (.ref a) s') fa (under_ok cx.ok) r1 cx.frames (cx.fok.step st1) ⟨_, _, rfl, ⟨a, va, rfl⟩, rfl⟩ ?_)
  cases hq : C f [.ref σ.length] (σ ++ [.inst [none, none, none], .aux]) with
  | stuck => rw [hq] at p; exact p
  | exc c σ' =>
    rw [hq] at p
    exact PostX.step (s := ⟨hh, gg, d, t, os⟩) (tk := t) p st1
  | ok v σ' =>
    rw [hq] at p
    intro μ' u h'' tk r st hv
    cases v with
    | none =>
      refine ⟨hv, ?_⟩
      exact p μ' (.ref a) h'' tk r (st1.trans st) ⟨a, getElem?_prefix st.pre va, rfl⟩
    | _ => exact (show False from p).elim

end
end Mine


-- part MiniComp
set_option maxRecDepth 4000
set_option linter.unusedVariables false
namespace Mine
open PySem

theorem Step.transX {μ μ' μ'' : List Addr} {h h' h'' : Heap} {P : Addr → Prop} (s : Step μ μ' h h') (pre : μ' <+: μ'') (keep : ∀ b o, b ∉ μ' → ¬ P b → h'.get? b = some o → h''.get? b = some o) (fresh : ∀ b, b ∈ μ'' → b ∉ μ' → h.get? b = none)
    (hP : ∀ b, P b → h.get? b = none) : Step μ μ'' h h'' :=
  ⟨s.pre.trans pre, fun b o n e => look_keep (fun o' => keep b o' (s.notMemL n e) (fun q => by obtain ⟨o2, e2, _⟩ := look_elim e; rw [hP b q] at e2; cases e2)) (s.keep b o n e), fun b x y => by
    by_cases q : b ∈ μ'
    · exact s.fresh b q y
    · exact fresh b x q⟩

/-- the cells that a comprehension's block takes along -/
noncomputable def clos (env : Env) : List (Str × NameKind) → List (Str × Addr) → List (Str × Addr)
  | [], acc => acc
  | (n, k) :: r, acc => clos env r (if k == .free then (match env.cells.lookup n with | some c => (n, c) :: acc | none => acc) else acc)

theorem closureFor_of {sc : Scope} {env : Env} (h : ∀ p ∈ sc.names, p.2 = .free → ∃ c, env.cells.lookup p.1 = some c) : closureFor sc env = pure (clos env sc.names []) := by
  have key : ∀ (l : List (Str × NameKind)) (acc : List (Str × Addr)), (∀ p ∈ l, p.2 = .free → ∃ c, env.cells.lookup p.1 = some c) →
      (forIn l acc fun (x : Str × NameKind) (cs : List (Str × Addr)) => (match x with
        | (name, kind) => if (kind == .free) = true then do let c ← cellOf env name; pure (ForInStep.yield ((name, c) :: cs)) else pure (ForInStep.yield cs) : Sem (ForInStep (List (Str × Addr))))) = pure (clos env l acc) := fun l => by
    induction l with
    | nil => intro acc _; rfl
    | cons p r ih =>
      intro acc hl
      obtain ⟨nm, k⟩ := p
      rw [List.forIn_cons]
      by_cases hk : (k == .free) = true
      · obtain ⟨c, hc⟩ := hl (nm, k) (.head _) (by simpa using hk)
        simp only at hc
        simp only [hk, if_true, clos, hc]
        have : cellOf env nm = pure c := by unfold cellOf; rw [hc]
        rw [this]
        exact ih ((nm, c) :: acc) fun p hp => hl p (.tail _ hp)
      · simp only [hk, if_false, clos]
        exact ih acc fun p hp => hl p (.tail _ hp)
  have := key sc.names [] h
  have e := congrArg (fun m : Sem (List (Str × Addr)) => m >>= fun cs => pure cs) this
  exact Eq.trans (by rfl) e

theorem clos_lookup {env : Env} : ∀ (l : List (Str × NameKind)) (acc : List (Str × Addr)) (x : Str) (c : Addr), (clos env l acc).lookup x = some c → (∃ k, (x, k) ∈ l ∧ k = .free ∧ env.cells.lookup x = some c) ∨ acc.lookup x = some c
  | [], acc, x, c, h => .inr h
  | (nm, k) :: r, acc, x, c, h => by
    rw [clos] at h
    rcases clos_lookup r _ x c h with ⟨k', m, e, q⟩ | q
    · exact .inl ⟨k', .tail _ m, e, q⟩
    · split at q
      · rename_i hk
        split at q
        · rename_i c' hc
          rw [List.lookup_cons] at q
          split at q
          · rename_i hx; cases q; rw [beq_iff_eq] at hx; subst hx; exact .inl ⟨k, .head _, by simpa using hk, hc⟩
          · exact .inr q
        · exact .inr q
      · exact .inr q
theorem clos_some {env : Env} {x : Str} : ∀ (l : List (Str × NameKind)) (acc : List (Str × Addr)), ((x, .free) ∈ l ∧ (∃ c, env.cells.lookup x = some c)) ∨ (∃ c, acc.lookup x = some c) → ∃ c, (clos env l acc).lookup x = some c
  | [], acc, h => h.elim (fun q => nomatch q.1) id
  | (nm, k) :: r, acc, h => by
    rw [clos]
    refine clos_some r _ ?_
    by_cases hx : (x == nm) = true
    · rw [beq_iff_eq] at hx; subst hx
      rcases h with ⟨m, c, hc⟩ | ⟨c, hc⟩
      · by_cases hk : (k == .free) = true
        · exact .inr ⟨c, by simp [hk, hc, List.lookup_cons]⟩
        · rcases List.mem_cons.mp m with q | q
          · cases q; exact absurd rfl hk
          · exact .inl ⟨q, c, hc⟩
      · refine .inr ?_
        split
        · split
          · rename_i c' _; exact ⟨c', by simp⟩
          · exact ⟨c, hc⟩
        · exact ⟨c, hc⟩
    · have hx' : (x == nm) = false := by simpa using hx
      rcases h with ⟨m, c, hc⟩ | ⟨c, hc⟩
      · rcases List.mem_cons.mp m with q | q
        · cases q; simp at hx
        · exact .inl ⟨q, c, hc⟩
      · refine .inr ⟨c, ?_⟩
        split
        · split
          · rw [List.lookup_cons, hx']; exact hc
          · exact hc
        · exact hc

end Mine


-- part MiniComp2
set_option maxRecDepth 4000
set_option linter.unusedVariables false
namespace Mine
open PySem

theorem lookup_relabel (inner outer : Scope) (x : Str) : (relabelS inner outer).names.lookup x = (inner.names.lookup x).map fun k => if (k == .free && outer.kind == .function && outer.names.lookup x == some .cell) then .cell else k := by
  show (inner.names.map _).lookup x = _
  generalize inner.names = l
  induction l with
  | nil => rfl
  | cons p r ih =>
    obtain ⟨n, k⟩ := p
    rw [List.map_cons]
    dsimp only
    by_cases hx : (x == n) = true
    · rw [beq_iff_eq] at hx; subst hx
      by_cases hc : (k == NameKind.free && outer.kind == ScopeKind.function && List.lookup x outer.names == some NameKind.cell) = true
      · rw [if_pos hc, List.lookup_cons, List.lookup_cons, beq_self_eq_true, Option.map_some, if_pos hc]
      · rw [if_neg hc, List.lookup_cons, List.lookup_cons, beq_self_eq_true, Option.map_some, if_neg hc]
    · have hx' : (x == n) = false := by simpa using hx
      by_cases hc : (k == NameKind.free && outer.kind == ScopeKind.function && List.lookup n outer.names == some NameKind.cell) = true
      · rw [if_pos hc, List.lookup_cons, List.lookup_cons, hx']; exact ih
      · rw [if_neg hc, List.lookup_cons, List.lookup_cons, hx']; exact ih

theorem mem_of_lookup {α : Type} {x : Str} {v : α} : ∀ {l : List (Str × α)}, l.lookup x = some v → (x, v) ∈ l
  | [], h => by cases h
  | (n, k) :: r, h => by
    rw [List.lookup_cons] at h
    split at h
    · rename_i hx; rw [beq_iff_eq] at hx; subst hx; cases h; exact .head _
    · exact .tail _ (mem_of_lookup h)

/-- the block's frame -/
noncomputable def cenvOf (env : Env) (inner : Scope) (C : Addr) : Env :=
  { scope := relabel inner env, locals := C, globals := env.globals, cells := clos env inner.names [], qual := env.qual, func := none, code := env.code, frame := env.frame, builtins := env.builtins }

section
variable {n : Nat} {prog : Program} {w : World} {B : Heap} {sc inner : Scope} {sm : List (Str × Nat)}
variable {env : Env} {ρ : Rho} {σ : MH} {μ : List Addr} {h : Heap} {A : Around} {x : Str} {i : Nat} {D : Addr}

structure CompOk (inner sc : Scope) (sm : List (Str × Nat)) (x : Str) (i : Nat) : Prop where
  kind : inner.kind = .function
  var : inner.names.lookup x = some .local
  nocell : ∀ p ∈ inner.names, p.2 ≠ .cell
  locs : ∀ p ∈ inner.names, p.2 = .local → inner.names.lookup p.1 = some .local
  free : ∀ p ∈ inner.names, p.2 = .free → sc.names.lookup p.1 = some .cell ∨ sc.names.lookup p.1 = some .free
  only : ∀ p ∈ inner.names, p.2 = .local → p.1 = x ∨ sm.lookup p.1 = none
  slot : ∀ y j, sm.lookup y = some j → j ≠ i

theorem compOk_of (h1 : compScOk inner sc x = true) (h2 : (inner.names.all fun p => p.2 != .local || p.1 == x || (sm.lookup p.1).isNone) = true) (h3 : (sm.all fun p => p.2 != i) = true) : CompOk inner sc sm x i := by
  unfold compScOk at h1
  simp only [Bool.and_eq_true, beq_iff_eq] at h1
  obtain ⟨⟨k, v⟩, al⟩ := h1
  rw [List.all_eq_true] at al h2 h3
  refine ⟨k, v, fun p hp e => ?_, fun p hp e => ?_, fun p hp e => ?_, fun p hp e => ?_, fun y j hy e => ?_⟩
  · have := al p hp; simp [e] at this
  · have := al p hp; simp [e] at this; exact this
  · have := al p hp; simp [e] at this; exact this
  · have := h2 p hp
    simp only [e, bne_self_eq_false, Bool.false_or, Bool.or_eq_true, beq_iff_eq, Option.isNone_iff_eq_none] at this; exact this
  · have := h3 _ (mem_of_lookup hy); simp [e] at this

theorem comp_kind (ok : CompOk inner sc sm x i) (hs : env.scope = sc) (hk : sc.kind = .function) (y : Str) : (cenvOf env inner D).kindOf y = some .local ∧ inner.names.lookup y = some .local ∨
    ((cenvOf env inner D).kindOf y = some .cell ∨ (cenvOf env inner D).kindOf y = some .free) ∧ inner.names.lookup y = some .free ∨ isVar ((cenvOf env inner D).kindOf y) = false := by
  have e : (cenvOf env inner D).kindOf y = (inner.names.lookup y).map fun k => if (k == .free && sc.kind == .function && sc.names.lookup y == some .cell) then .cell else k := by
    have := lookup_relabel inner sc y
    rw [← hs] at this ⊢
    exact this
  rw [e]
  cases hl : inner.names.lookup y with
  | none => exact .inr (.inr rfl)
  | some k =>
    cases k with
    | «local» => exact .inl ⟨rfl, rfl⟩
    | cell => exact absurd rfl (ok.nocell _ (mem_of_lookup hl))
    | free =>
      refine .inr (.inl ⟨?_, rfl⟩)
      simp only [Option.map_some]
      split
      · exact .inl rfl
      · exact .inr rfl
    | globalExplicit => exact .inr (.inr rfl)
    | globalImplicit => exact .inr (.inr rfl)

theorem comp_frm (ok : CompOk inner sc sm x i) (cx : Cx n B X A env sc sm ρ μ σ h) {m : Str → Option Value} (hn : h.Ns D m) (hD : D ∉ μ) (hB : B.get? D = none) (hne : ∀ y c, env.cells.lookup y = some c → c ≠ D) : Frm B (cenvOf env inner D) μ h := by
  have hk : sc.kind = .function := by rw [← cx.scope]; exact cx.frm.kind
  refine ⟨ok.kind, cx.frm.glob, cx.frm.bl, ⟨m, hn⟩, hD, hB, fun y c l => ?_, fun y z c l l' => ?_, fun y hy => ?_⟩
  · rcases clos_lookup _ _ y c l with ⟨k, hm, rfl, q⟩ | q
    · obtain ⟨c1, c2, c3, c4⟩ := cx.frm.cell y c q
      exact ⟨c1, hne y c q, c3, c4⟩
    · cases q
  · rcases clos_lookup _ _ y c l with ⟨k, hm, rfl, q⟩ | q
    · rcases clos_lookup _ _ z c l' with ⟨k', hm', rfl, q'⟩ | q'
      · exact cx.frm.cinj y z c q q'
      · cases q'
    · cases q
  · rcases comp_kind (D := D) ok cx.scope hk y with ⟨k, _⟩ | ⟨_, hl⟩ | k
    · rw [k] at hy; rcases hy with q | q <;> cases q
    · have hm := mem_of_lookup hl
      have hf := ok.free _ hm rfl
      obtain ⟨c, hc⟩ := cx.frm.has y (by rw [cx.kind]; exact hf)
      exact clos_some _ _ (.inl ⟨hm, c, hc⟩)
    · rcases hy with q | q <;> (rw [q] at k; cases k)

theorem comp_vars (ok : CompOk inner sc sm x i) (cx : Cx n B X A env sc sm ρ μ σ h) {m : Str → Option Value} (hn : h.Ns D m) {v : Val} {v' : Value} (hm : m x = some v') (hv : VRel μ v v') : Vars (cenvOf env inner D) ((x, i) :: sm) (ρ.set i (some v)) μ h := by
  have hk : sc.kind = .function := by rw [← cx.scope]; exact cx.frm.kind
  intro y j u hy hl he
  rw [List.lookup_cons] at hl
  by_cases hx : (y == x) = true
  · rw [hx] at hl
    rw [beq_iff_eq] at hx; subst hx
    cases hl
    have hu : u = v := by
      have lt : i < (ρ.set i (some v)).length := (List.getElem?_eq_some_iff.mp he).1
      rw [List.getElem?_set_self (by simpa using lt)] at he
      exact (Option.some.inj (Option.some.inj he)).symm
    subst hu
    rcases comp_kind (D := D) ok cx.scope hk y with ⟨k, _⟩ | ⟨_, k⟩ | k
    · exact ⟨v', .inl ⟨k, m, hn, hm⟩, hv⟩
    · rw [ok.var] at k; cases k
    · rw [k] at hy; cases hy
  · have hx' : (y == x) = false := by simpa using hx
    rw [hx'] at hl
    rw [List.getElem?_set_ne (Ne.symm (ok.slot y j hl))] at he
    rcases comp_kind (D := D) ok cx.scope hk y with ⟨_, k⟩ | ⟨kk, k⟩ | k
    · rcases ok.only _ (mem_of_lookup k) rfl with q | q
      · simp at q; subst q; simp at hx
      · simp only at q; rw [q] at hl; cases hl
    · have hmem := mem_of_lookup k
      have hf := ok.free _ hmem rfl
      simp only at hf
      obtain ⟨u', b, r⟩ := cx.vars y j u (by rw [cx.kind]; rcases hf with q | q <;> rw [q] <;> rfl) hl he
      rcases b with ⟨q, _⟩ | ⟨_, c, hc, hi⟩
      · rw [cx.kind] at q; rcases hf with z | z <;> (rw [z] at q; cases q)
      · refine ⟨u', .inr ⟨kk, c, ?_, hi⟩, r⟩
        obtain ⟨c', hc'⟩ := clos_some (env := env) (x := y) inner.names [] (.inl ⟨hmem, c, hc⟩)
        rcases clos_lookup _ _ y c' hc' with ⟨_, _, _, q⟩ | q
        · rw [hc] at q; cases q; exact hc'
        · cases q
    · rw [k] at hy; cases hy

end
end Mine


-- part MiniComp3
set_option maxRecDepth 4000
set_option linter.unusedVariables false
namespace Mine
open PySem

section
variable {n : Nat} {C : Cf} {prog : Program} {w : World} {B : Heap} {sc inner : Scope} {sm : List (Str × Nat)}
variable {env : Env} {ρ : Rho} {σ₀ : MH} {μ₀ : List Addr} {s : Shared} {A : Around} {X : XE} {x : Str} {i : Nat} {D I Cn : Addr}

noncomputable def TestOk (n : Nat) (C : Cf) (prog : Program) (w : World) (B : Heap) (sc : Scope) (sm : List (Str × Nat)) (cond : MExpr) (ifs : List Expr) : Prop :=
  ∀ {env ρ σ μ} {s : Shared} {A : Around} {X : XE} {Q : Bool → Shared → Prop}, Cx n B X A env sc sm ρ μ σ s.heap → Post B X BRel μ s Q ((sem C cond).T ρ σ) →
    wpAny (model prog w) A (forIn ifs true fun c r => if r = true then do let ok ← isTrue c env (eval c env); pure (ForInStep.yield ok) else pure (ForInStep.yield r)) Q X.E s

theorem test_nil : TestOk n C prog w B sc sm (.const (.bool true)) [] := fun {env ρ σ μ s A X Q} cx p => by
  have p : Post B X BRel μ s Q (.ok true σ) := p
  exact wpAny_pure (p.here' cx.rel rfl)
theorem test_one {cond : MExpr} {c : Expr} (h : ST n C prog w B sc sm cond c) : TestOk n C prog w B sc sm cond [c] := fun {env ρ σ μ s A X Q} cx p => by
  refine wpAny_forIn_list _ (fun l b s' => (l = [c] ∧ b = true ∧ s' = s) ∨ (l = [] ∧ Q b s')) Q (fun y rest b s' hI => ?_) (fun b s' hI => ?_) [c] true (.inl ⟨rfl, rfl, rfl⟩)
  · rcases hI with ⟨e, rfl, rfl⟩ | ⟨e, _⟩
    · cases e
      rw [if_pos rfl]
      refine wpAny_bind (h cx ?_)
      cases q : (sem C cond).T ρ σ with
      | ok b σ1 => rw [q] at p; intro μ' b' h' tk r st hb; exact wpAny_pure (.inr ⟨rfl, p μ' b' h' tk r st hb⟩)
      | exc c h => rw [q] at p; exact p
      | stuck => rw [q] at p; exact p
    · cases e
  · rcases hI with ⟨e, _⟩ | ⟨_, q⟩
    · cases e
    · exact q

noncomputable def CPost (B : Heap) (X : XE) (μ₀ : List Addr) (s : Shared) (D Cn : Addr) (R : Result → Shared → Prop) : Res (List Val) → Prop
  | .ok vs σ' => ∀ μ' h' tk ys k m, HRel B μ' σ' h' → Step μ₀ μ' s.heap h' → D ∉ μ' → Cn ∉ μ' → h'.get? D = some (listObj ys k) → VsRel μ' vs ys → h'.Ns Cn m → R (.ok .next) { s with heap := h', toks := tk }
  | .exc c σ' => ∀ μ' h' tk e base m, HX B μ' σ' base c → StepX μ₀ μ' s.heap base h' → base.StaysIn h' → base.get? e = none → h'.FunFrames base X.l → Trc h' base e (.ref (clsK B c)) → Cn ∉ μ' → h'.Ns Cn m → R (.error (.ref e)) { s with heap := h', toks := tk }
  | .stuck => False

theorem comp_loop {elt cond : MExpr} {e1 iter : Expr} {ifs : List Expr} {px pos : Pos} {xs : List Val} {ck : MH → Bool} {At : Nat → Heap → Prop} {μ₁ : List Addr} {σ₁ : MH} {h₁ : Heap} {tk₁ : Nat} {m₁ : Str → Option Value} {k₁ : Nat} {R : Result → Shared → Prop} {res : Res (List Val)}
    (ok : CompOk inner sc sm x i) (cx : Cx n B X A env sc sm ρ μ₀ σ₀ s.heap) (HE : SE n C prog w B (relabelS inner sc) ((x, i) :: sm) elt e1) (HT : TestOk n C prog w B (relabelS inner sc) ((x, i) :: sm) cond ifs)
    (it : Iter prog w B μ₁ xs ck I At) (fr : ∀ b, (b = I ∨ b = D ∨ b = Cn) → s.heap.get? b = none ∧ b ∉ μ₁ ∧ B.get? b = none) (nID : I ≠ D) (nIC : I ≠ Cn) (nDC : D ≠ Cn) (hl : xs.length ≤ lim)
    (r₁ : HRel B μ₁ σ₁ h₁) (st₁ : Step μ₀ μ₁ s.heap h₁) (at₁ : At 0 h₁) (d₁ : h₁.get? D = some (listObj [] k₁)) (n₁ : h₁.Ns Cn m₁) (c₁ : ck σ₁ = true)
    (hq : A.handled = none ∨ ((∀ σ, ck σ = true) ∧ ∃ i, .int i ∈ xs)) (hres : res = compLoop (compStep (.loc i) (sem C cond).T (sem C elt).E ρ) ck xs σ₁) (P : CPost B X μ₀ s D Cn R res) :
    codeAny (model prog w) A (.compLoop (.ListComp e1 [⟨.Name x px, iter, ifs, 0⟩] inner pos) 0 (.ref I) (.ref D) (cenvOf env inner Cn)) R { s with heap := h₁, toks := tk₁ } := by
  have hk : sc.kind = .function := by rw [← cx.scope]; exact cx.frm.kind
  refine codeAny_compLoop_tests (fun k s' => ∃ j μj σj hj tkj ys nn m done, k = xs.length - j ∧ j ≤ xs.length ∧ s' = { s with heap := hj, toks := tkj } ∧ HRel B μj σj hj ∧ Step μ₀ μj s.heap hj ∧ μ₁ <+: μj ∧ (∀ b, (b = I ∨ b = D ∨ b = Cn) → b ∉ μj) ∧
    At j hj ∧ hj.get? D = some (listObj ys nn) ∧ VsRel μj done ys ∧ hj.Ns Cn m ∧ ck σj = true ∧ (res = (compLoop (compStep (.loc i) (sem C cond).T (sem C elt).E ρ) ck (xs.drop j) σj).bind fun vs h => .ok (done ++ vs) h) ∧ done.length ≤ j)
    (fun k s' hI => ?_) xs.length ⟨0, μ₁, σ₁, h₁, tk₁, [], k₁, m₁, [], by simp, Nat.zero_le _, rfl, r₁, st₁, List.prefix_refl _, fun b q => (fr b q).2.1, at₁, d₁, rfl, n₁, c₁, by rw [hres, List.drop_zero]; cases compLoop (compStep (.loc i) (sem C cond).T (sem C elt).E ρ) ck xs σ₁ <;> rfl, Nat.le_refl _⟩
  obtain ⟨j, μj, σj, hj, tkj, ys, nn, m, done, rfl, hj', rfl, rj, stj, pj, frj, atj, dj, vj, nj, cj, hrj, hdl⟩ := hI
  have hP : ∀ b, (b = I ∨ b = D ∨ b = Cn) → s.heap.get? b = none := fun b q => (fr b q).1
  have hPB : ∀ b, (b = I ∨ b = D ∨ b = Cn) → B.get? b = none := fun b q => (fr b q).2.2
  rcases Nat.lt_or_eq_of_le hj' with lt | rfl
  · rw [List.drop_eq_getElem_cons lt] at hrj
    rw [compLoop, compStep, bindTgt] at hrj
    simp only at hrj
    refine it.item j xs[j] A _ μj σj _ _ (List.getElem?_eq_getElem lt) pj atj rj cj fun v h1 tk1 hv at1 k1 => ?_
    -- the loop's variable
    have r1 : HRel B μj σj h1 := rj.other (P := fun b => b = I ∨ b = D ∨ b = Cn) (fun b o nb e => k1 b o (fun z => nb (.inl z)) e) frj hPB
    have st1 : Step μ₀ μj s.heap h1 := stj.transX (P := fun b => b = I ∨ b = D ∨ b = Cn) (List.prefix_refl _) (fun b o _ nb e => k1 b o (fun z => nb (.inl z)) e) (fun b x y => absurd x y) hP
    have n1 : h1.Ns Cn m := Ns_at nj fun o e => k1 Cn o (Ne.symm nIC) e
    have d1 : h1.get? D = some (listObj ys nn) := k1 D _ (Ne.symm nID) dj
    have kx : (cenvOf env inner Cn).kindOf x = some .local := by
      rcases comp_kind (D := Cn) ok cx.scope hk x with ⟨k, _⟩ | ⟨_, k⟩ | k
      · exact k
      · rw [ok.var] at k; cases k
      · have : (cenvOf env inner Cn).kindOf x = some .local := by
          show (relabel inner env).names.lookup x = _
          have := lookup_relabel inner env.scope x
          rw [show (relabel inner env).names.lookup x = (relabelS inner env.scope).names.lookup x from rfl, this, ok.var]; rfl
        exact this
    show wpAny (model prog w) A (assign (.Name x px) (cenvOf env inner Cn) v) _ _ { s with heap := h1, toks := tk1 }
    refine wpAny_bind (wpAny_standAt (wpAny_bindName (wpAny_storeName_local kx n1 (fun h2 n2 s2 => ?_) (by show (inner.kind == .class || (inner.kind == .module && _)) = false; rw [ok.kind]; rfl))))
    have r2 : HRel B μj σj h2 := r1.other (P := fun b => b = I ∨ b = D ∨ b = Cn) (fun b o nb e => sameBut_keep s2 b o (fun z => nb (.inr (.inr z))) e) frj hPB
    have st2 : Step μ₀ μj s.heap h2 := st1.transX (P := fun b => b = I ∨ b = D ∨ b = Cn) (List.prefix_refl _) (fun b o _ nb e => sameBut_keep s2 b o (fun z => nb (.inr (.inr z))) e) (fun b x y => absurd x y) hP
    have at2 : At (j + 1) h2 := it.frame _ _ _ at1 fun o e => look_keep (fun o => sameBut_keep s2 I o nIC) e
    have d2 : h2.get? D = some (listObj ys nn) := sameBut_keep s2 D _ nDC d1
    have cxo : Cx n B X A env sc sm ρ μj σj h2 := cx.step st2 r2
    have hne : ∀ y c, env.cells.lookup y = some c → c ≠ Cn := fun y c q z => by
      obtain ⟨⟨v, o, e, _⟩, _⟩ := cx.frm.cell y c q
      rw [z, (fr Cn (.inr (.inr rfl))).1] at e; cases e
    have cx2 : Cx n B ⟨X.l, notedBy (model prog w) A (cenvOf env inner Cn) fun e s' => R (.error e) s'⟩ A (cenvOf env inner Cn) (relabelS inner sc) ((x, i) :: sm) (ρ.set i (some xs[j])) μj σj h2 :=
      ⟨by show relabel inner env = _; rw [← cx.scope]; rfl, cx.ok, comp_frm ok cxo n2 (frj Cn (.inr (.inr rfl))) (hPB Cn (.inr (.inr rfl))) hne, comp_vars ok cxo n2 (by rw [if_pos rfl]) hv, r2, cxo.frames, cxo.fok, cxo.here, fun e he L hL y q => by
        rcases clos_lookup _ _ y L q with ⟨_, _, _, q⟩ | q
        · exact cxo.apart e he L hL y q
        · exact (nomatch q), cxo.hd⟩
    have frm' : ∀ {μ' : List Addr} {h' : Heap}, Step μj μ' h2 h' → ∀ b, (b = I ∨ b = D ∨ b = Cn) → b ∉ μ' := fun st b q => by
      rcases q with rfl | rfl | rfl
      · obtain ⟨o, e⟩ := it.alive _ _ at2; exact st.notMem (frj _ (.inl rfl)) e
      · exact st.notMem (frj _ (.inr (.inl rfl))) d2
      · obtain ⟨o, e⟩ := Ns_alive n2; exact st.notMem (frj _ (.inr (.inr rfl))) e
    have hr : Here A X.l (cenvOf env inner Cn) := ⟨cxo.frames, cxo.here⟩
    -- an exception inside
    have exc : ∀ {c : Nat} {σ' : MH} {μ' : List Addr} {h' : Heap} {tk : Nat}, res = .exc c σ' → Step μj μ' h2 h' → PostX B ⟨X.l, notedBy (model prog w) A (cenvOf env inner Cn) fun e s' => R (.error e) s'⟩ μ' { s with heap := h', toks := tk } c σ' := fun {c σ' μ' h' tk} he sta => by
      rw [he] at P
      exact PostX.ofNoted hr fun μ'' h'' tk' e base r st b1 b2 b3 b4 => P μ'' h'' tk' e base _ r ((st2.trans sta).transX' st) b1 b2 b3 b4 ((frm' (sta.trans st.step)) Cn (.inr (.inr rfl))) (Ns_look n2 fun o e => (sta.trans st.step).keep Cn o (frj Cn (.inr (.inr rfl))) e)
    refine HT (s := { s with heap := h2, toks := tk1 + 1 }) cx2 ?_
    cases g1 : (sem C cond).T (ρ.set i (some xs[j])) σj with
    | stuck => rw [g1] at hrj; rw [hrj] at P; exact P
    | exc c σ' => rw [g1] at hrj; exact exc hrj (Step.refl _ _)
    | ok b σa =>
      rw [g1] at hrj
      simp only [Res.bind_ok] at hrj
      intro μa b' ha tka ra sta hb
      rw [← show b = b' from hb]
      have cxa := cx2.step sta ra
      cases b with
      | true =>
        rw [if_pos rfl] at hrj ⊢
        refine HE (s := { s with heap := ha, toks := tka }) cxa ?_
        cases g3 : (sem C elt).E (ρ.set i (some xs[j])) σa with
        | stuck => rw [g3] at hrj; rw [hrj] at P; exact P
        | exc c σ' => rw [g3] at hrj; exact exc hrj sta
        | ok v2 σ1 =>
          rw [g3] at hrj
          simp only [Res.bind_ok] at hrj
          by_cases f2 : ck σ1 = true
          · rw [if_pos f2, Res.bind_assoc] at hrj
            simp only [Res.bind_ok] at hrj
            intro μb v' hb' tkb rb stb hvb
            have stab : Step μj μb h2 hb' := sta.trans stb
            have db : hb'.get? D = some (listObj ys nn) := stab.get (frj D (.inr (.inl rfl))) d2 (fun _ _ q => by cases q)
            have nb := Ns_look n2 fun o e => stab.keep Cn o (frj Cn (.inr (.inr rfl))) e
            have atb : At (j + 1) hb' := it.frame _ _ _ at2 fun o e => stab.keep I o (frj I (.inl rfl)) e
            have ylen := vj.length
            refine wpAny_list_append_plain (s := { s with heap := hb', toks := tkb }) (items := ys.toArray) ⟨nn, db⟩ (fun h3 p3 s3 => ?_) (by
              have : lim = 1048576 := rfl
              simp only [List.size_toArray, ylen]; show _ ≤ 2 ^ 24; omega)
            obtain ⟨n3, d3⟩ := p3
            have d3' : h3.get? D = some (listObj (ys ++ [v']) n3) := by rw [d3]; simp
            have frb := frm' stab
            refine ⟨xs.length - (j + 1), by omega, j + 1, μb, σ1, h3, tkb, ys ++ [v'], n3, _, done ++ [v2], rfl, lt, rfl,
              rb.other (P := fun b => b = I ∨ b = D ∨ b = Cn) (fun b o nb e => sameBut_keep s3 b o (fun z => nb (.inr (.inl z))) e) frb hPB,
              (st2.trans stab).transX (P := fun b => b = I ∨ b = D ∨ b = Cn) (List.prefix_refl _) (fun b o _ nb e => sameBut_keep s3 b o (fun z => nb (.inr (.inl z))) e) (fun b x y => absurd x y) hP,
              pj.trans stab.pre, frb, it.frame _ _ _ atb fun o e => look_keep (fun o => sameBut_keep s3 I o nID) e, d3', (vj.mono stab.pre).append ⟨v', [], rfl, hvb, rfl⟩, Ns_at nb fun o e => sameBut_keep s3 Cn o (Ne.symm nDC) e, f2, ?_, by simp; omega⟩
            rw [hrj]; simp
          · rw [if_neg f2] at hrj; rw [hrj] at P; exact P.elim
      | false =>
        rw [if_neg (by simp)] at hrj ⊢
        simp only [Res.bind_ok] at hrj
        by_cases f2 : ck σa = true
        · rw [if_pos f2, Res.bind_assoc] at hrj
          simp only [Res.bind_ok] at hrj
          have da : ha.get? D = some (listObj ys nn) := sta.get (frj D (.inr (.inl rfl))) d2 (fun _ _ q => by cases q)
          exact ⟨xs.length - (j + 1), by omega, j + 1, μa, σa, ha, tka, ys, nn, _, done, rfl, lt, rfl, ra, st2.trans sta, pj.trans sta.pre, frm' sta,
            it.frame _ _ _ at2 fun o e => sta.keep I o (frj I (.inl rfl)) e, da, vj.mono sta.pre, Ns_look n2 fun o e => sta.keep Cn o (frj Cn (.inr (.inr rfl))) e, f2, hrj, by omega⟩
        · rw [if_neg f2] at hrj; rw [hrj] at P; exact P.elim
  · rw [List.drop_length] at hrj
    simp only [compLoop, Res.bind_ok, List.append_nil] at hrj
    rw [hrj] at P
    refine it.done A _ μj σj _ _ (hq.imp id fun z => ⟨z.1, z.2, (cx.step stj rj).hd⟩) pj atj rj cj fun h1 tk1 k1 => ?_
    exact P μj h1 tk1 ys nn m (rj.other (P := fun b => b = I ∨ b = D ∨ b = Cn) (fun b o nb e => k1 b o (fun z => nb (.inl z)) e) frj hPB)
      (stj.transX (P := fun b => b = I ∨ b = D ∨ b = Cn) (List.prefix_refl _) (fun b o _ nb e => k1 b o (fun z => nb (.inl z)) e) (fun b x y => absurd x y) hP)
      (frj D (.inr (.inl rfl))) (frj Cn (.inr (.inr rfl))) (k1 D _ (Ne.symm nID) dj) vj (Ns_at nj fun o e => k1 Cn o (Ne.symm nIC) e)

end
end Mine


-- part MiniComp4
set_option maxRecDepth 4000
set_option linter.unusedVariables false
namespace Mine
open PySem

section
variable {n : Nat} {C : Cf} {prog : Program} {w : World} {B : Heap} {sc inner : Scope} {sm : List (Str × Nat)}
variable {env : Env} {ρ : Rho} {σ : MH} {μ : List Addr} {s : Shared} {A : Around} {E : Value → Shared → Prop} {X : XE} {x : Str} {i : Nat}

noncomputable def CorePost (prog : Program) (w : World) (B : Heap) (X : XE) (A : Around) (μ : List Addr) (s : Shared) (use : Option (Value → Sem Unit)) (Q : Value → Shared → Prop) : Res (List Val) → Prop
  | .ok vs σ' => ∀ μ' D Cn h' tk ys k m, HRel B μ' σ' h' → Step μ μ' s.heap h' → D ∉ μ' → Cn ∉ μ' → D ≠ Cn → s.heap.get? D = none → s.heap.get? Cn = none → B.get? D = none → B.get? Cn = none → h'.get? D = some (listObj ys k) → VsRel μ' vs ys → h'.Ns Cn m →
      compPost (model prog w) A X.E use Q (.ref D) Cn (.ok .next) { s with heap := h', toks := tk }
  | .exc c σ' => PostX B X μ s c σ'
  | .stuck => False

/-- the block's names go, and the exception on -/
theorem passed_on {c : Nat} {σ' : MH} {μ' : List Addr} {h' base : Heap} {tk : Nat} {e Cn : Addr} {m : Str → Option Value} {use : Option (Value → Sem Unit)} {Q : Value → Shared → Prop} {acc : Value} (p : PostX B X μ s c σ') (fok : FrOk B X.l μ s.heap)
    (r : HX B μ' σ' base c) (st : StepX μ μ' s.heap base h') (b1 : base.StaysIn h') (b2 : base.get? e = none) (b3 : h'.FunFrames base X.l) (b4 : Trc h' base e (.ref (clsK B c))) (nC : Cn ∉ μ') (ns : h'.Ns Cn m) (sC : s.heap.get? Cn = none) (bC : B.get? Cn = none) :
    compPost (model prog w) A X.E use Q acc Cn (.error (.ref e)) { s with heap := h', toks := tk } := by
  show ∃ m, h'.Ns Cn m ∧ ∀ h2, Heap.SameBut Cn h' h2 → ∀ cenv : Env, cenv.locals = Cn → wpAny (model prog w) A (passOn "comprehension.variables-let-go" (.ref e) cenv : Sem Value) (fun _ _ => False) X.E { s with heap := h2, toks := tk }
  refine ⟨m, ns, fun h2 sb cenv _ => ?_⟩
  obtain ⟨⟨a0, fl, oe, vs, T, oT, ts, t1, t2, t3, t4, t5, t6, t7, t8, t9⟩, oe', vs', c1, c2, c3⟩ := b4
  obtain ⟨oC, es, ep, eC, dC, _⟩ := ns
  have k : ∀ b o, ¬ b = Cn → h'.get? b = some o → h2.get? b = some o := sameBut_keep sb
  have ne : ¬ e = Cn := fun z => by rw [z, eC] at t1; cases t1; rw [dC] at t3; cases t3
  have nT : ¬ T = Cn := fun z => by rw [z, eC] at t7; cases t7; rw [dC] at t8; cases t8
  have k1 : (cut (· = Cn) base).StaysIn h2 := cut_keep b1 k
  have k2 : h2.FunFrames (cut (· = Cn) base) X.l := funFrames_base (fun b => cut_less b) (funFrames_at b3 fun f hf L o hL eo => k L o (fun z => by
    obtain ⟨_, L', h1, _, _, m', h5⟩ := fok f hf
    rw [hL] at h1; cases h1
    obtain ⟨o', e'⟩ := Ns_alive h5
    rw [z, sC] at e'; cases e') eo)
  have k3 : Trc h2 (cut (· = Cn) base) e (.ref (clsK B c)) := ⟨⟨a0, fl, oe, vs, T, oT, ts, k e oe ne t1, t2, t3, t4, cut_less T t5, t6, k T oT nT t7, t8, t9⟩, oe', vs', k e oe' ne c1, c2, c3⟩
  unfold passOn
  refine wpAny_bind (wpAny_field (s := { s with heap := h2, toks := tk }) (k e oe ne t1) t3 t4 ?_)
  rw [if_neg (by simp)]
  refine wpAny_bind (fly_set (s := { s with heap := h2, toks := tk }) k1 k2 k3 fun h3 n1 n2 n3 n4 => wpAny_throw ?_)
  exact p μ' h3 tk e _ ⟨r.1.other (P := fun b => b = Cn) (fun b o nb e => (cut_get (P := fun b => b = Cn) nb).trans e) (fun b z => z ▸ nC) (fun b z => z ▸ bC), r.2⟩ ((st.cut (P := fun b => b = Cn) (fun b z => z ▸ sC) k).hop k1 n1 n4) ⟨n1, cut_less e b2, n2, .inr n3⟩

/-- a comprehension, up to what is done with its list -/
theorem comp_core {elt cond it : MExpr} {e1 iter : Expr} {ifs : List Expr} {px pos cpos : Pos} {use : Option (Value → Sem Unit)} {Q : Value → Shared → Prop} {xs : List Val} {ck : MH → Bool} {σ₁ : MH}
    (ok : CompOk inner sc sm x i) (cx : Cx n B X A env sc sm ρ μ σ s.heap) (HI : SI n C prog w B sc sm it iter) (HE : SE n C prog w B (relabelS inner sc) ((x, i) :: sm) elt e1) (HT : TestOk n C prog w B (relabelS inner sc) ((x, i) :: sm) cond ifs)
    (hi : (sem C it).I ρ σ = .ok (xs, ck) σ₁) (hq : A.handled = none ∨ ((∀ σ, ck σ = true) ∧ ∃ i, .int i ∈ xs)) (K : CorePost prog w B X A μ s use Q (compLoop (compStep (.loc i) (sem C cond).T (sem C elt).E ρ) ck xs σ₁)) :
    wpAny (model prog w) A (comprehension (.ListComp e1 [⟨.Name x px, iter, ifs, 0⟩] inner pos) inner env cpos (PySem.newList []) false (eval iter env) use) Q X.E s := by
  refine wpAny_comprehension_free (g := ⟨.Name x px, iter, ifs, 0⟩) (gs := []) rfl (HI.1 env) (closureFor_of fun p hp q => ?_) ok.kind ok.locs ?_
  · exact cx.frm.has p.1 (by rw [cx.kind]; exact ok.free p hp q)
  refine HI.2 cx ?_
  rw [hi]
  intro μ₁ I At h₁ tk₁ r₁ st₁ i1 i2 i3 itr at₁ c₁ l₁
  obtain ⟨oI, eI⟩ := itr.alive _ _ at₁
  have ltI := Heap.lt_size eI
  refine wpAny_newObj_type (wpAny_newFunctionEnv (s := { s with heap := h₁.push _, toks := tk₁ }) ok.nocell (by intro y hy; simp at hy) (fun h₂ hns₂ hsb₂ => ?_) ok.kind)
  dsimp only at hns₂ hsb₂ ⊢
  generalize hH2 : h₁.push { cls := .type "list", dict := none, data := .seq ([] : List Value).toArray } = H2 at hns₂ hsb₂ ⊢
  have hC : H2.objs.size = h₁.objs.size + 1 := by rw [← hH2, Heap.size_push]
  have hDC : h₁.objs.size ≠ H2.objs.size := by rw [hC]; exact Nat.ne_of_lt (Nat.lt_succ_self _)
  have old : ∀ b o, h₁.get? b = some o → h₂.get? b = some o := fun b o e => hsb₂.extBut b o (by rw [hC]; exact Nat.ne_of_lt (Nat.lt_succ_of_lt (Heap.lt_size e))) (Heap.get?_push_of_some _ (hH2 ▸ Heap.get?_push_of_some _ e))
  have hacc : h₂.get? h₁.objs.size = some (listObj [] 0) := hsb₂.extBut _ _ hDC (Heap.get?_push_of_some _ (hH2 ▸ Heap.get?_push_size _ rfl))
  have hnoneC : h₁.get? H2.objs.size = none := by
    cases e : h₁.get? H2.objs.size with
    | none => rfl
    | some o' => exact absurd (Heap.lt_size e) (by rw [hC]; exact Nat.not_lt.mpr (Nat.le_succ _))
  have hs : ∀ b, h₁.get? b = none → b ∉ μ → s.heap.get? b = none := fun b e nm => by
    cases q : s.heap.get? b with
    | none => rfl
    | some o => obtain ⟨o', e', _⟩ := look_elim (st₁.keep b _ nm (look_of q)); rw [e'] at e; cases e
  have r₂ : HRel B μ₁ σ₁ h₂ := r₁.grow old
  have st₂ : Step μ μ₁ s.heap h₂ := st₁.trans (Step.grow old)
  have notmem : ∀ b, h₁.get? b = none → b ∉ μ₁ := fun b e q => by
    obtain ⟨o, g⟩ := r₁.alive q; rw [e] at g; cases g
  have noB : ∀ b, h₁.get? b = none → B.get? b = none := fun b e => by
    cases q : B.get? b with
    | none => rfl
    | some o => rw [r₁.base b o q] at e; cases e
  have eD := size_none h₁
  have frs : ∀ b, (b = I ∨ b = h₁.objs.size ∨ b = H2.objs.size) → s.heap.get? b = none ∧ b ∉ μ₁ ∧ B.get? b = none := fun b q => by
    rcases q with rfl | rfl | rfl
    · exact ⟨i3, i1, i2⟩
    · exact ⟨hs _ eD fun q => notmem _ eD (st₁.pre.subset q), notmem _ eD, noB _ eD⟩
    · exact ⟨hs _ hnoneC fun q => notmem _ hnoneC (st₁.pre.subset q), notmem _ hnoneC, noB _ hnoneC⟩
  have at₂ : At 0 h₂ := itr.frame _ _ _ at₁ fun o e => look_keep (old I) e
  have nIC : I ≠ H2.objs.size := by rw [hC]; exact Nat.ne_of_lt (Nat.lt_succ_of_lt ltI)
  have loop : codeAny (model prog w) A (.compLoop (.ListComp e1 [⟨.Name x px, iter, ifs, 0⟩] inner pos) 0 (.ref I) (.ref h₁.objs.size) (cenvOf env inner H2.objs.size))
      (compPost (model prog w) A X.E use Q (.ref h₁.objs.size) H2.objs.size) { s with heap := h₂, toks := tk₁ + ([] : List (Str × Value)).length } := by
    refine comp_loop ok cx HE HT itr frs (Nat.ne_of_lt ltI) nIC hDC l₁ r₂ st₂ at₂ hacc hns₂ c₁ hq rfl ?_
    revert K
    cases compLoop (compStep (.loc i) (sem C cond).T (sem C elt).E ρ) ck xs σ₁ with
    | stuck => exact fun K => K
    | exc c σ' => exact fun K μ' h' tk e base m r st b1 b2 b3 b4 nC ns => passed_on K cx.fok r st b1 b2 b3 b4 nC ns (frs _ (.inr (.inr rfl))).1 (frs _ (.inr (.inr rfl))).2.2
    | ok vs σ' => exact fun K μ' h' tk ys k m q1 q2 q3 q4 q5 q6 q7 =>
      (show CorePost prog w B X A μ s use Q (.ok vs σ') from K) μ' _ _ h' tk ys k m q1 q2 q3 q4 hDC (frs _ (.inr (.inl rfl))).1 (frs _ (.inr (.inr rfl))).1 (frs _ (.inr (.inl rfl))).2.2 (frs _ (.inr (.inr rfl))).2.2 q5 q6 q7
  exact codeAny_compStart_list loop (itr.again 0 _ _ _ _ at₂ loop)

/-- a comprehension that comes to a list -/
noncomputable def SC (n : Nat) (C : Cf) (prog : Program) (w : World) (B : Heap) (sc : Scope) (sm : List (Str × Nat)) (res : Rho → MH → Res (List Val)) (e1 tgt iter : Expr) (ifs : List Expr) (inner : Scope) : Prop :=
  ∀ {env ρ σ μ} {s : Shared} {A : Around} {X : XE} {use : Option (Value → Sem Unit)} {Q : Value → Shared → Prop} {pos cpos : Pos}, Cx n B X A env sc sm ρ μ σ s.heap → CorePost prog w B X A μ s use Q (res ρ σ) →
    wpAny (model prog w) A (comprehension (.ListComp e1 [⟨tgt, iter, ifs, 0⟩] inner pos) inner env cpos (PySem.newList []) false (eval iter env) use) Q X.E s
theorem sc_comp {elt cond it : MExpr} {e1 iter : Expr} {ifs : List Expr} {px : Pos} (hq : n < 1000 ∨ ∀ ρ σ xs ck σ₁, (sem C it).I ρ σ = .ok (xs, ck) σ₁ → (∀ σ, ck σ = true) ∧ ∃ i, .int i ∈ xs) (ok : CompOk inner sc sm x i) (HI : SI n C prog w B sc sm it iter) (HE : SE n C prog w B (relabelS inner sc) ((x, i) :: sm) elt e1)
    (HT : TestOk n C prog w B (relabelS inner sc) ((x, i) :: sm) cond ifs) : SC n C prog w B sc sm (fun ρ σ => ((sem C it).I ρ σ).bind fun s h => compLoop (compStep (.loc i) (sem C cond).T (sem C elt).E ρ) s.2 s.1 h) e1 (.Name x px) iter ifs inner := fun {env ρ σ μ s A X use Q pos cpos} cx p => by
  have p : CorePost prog w B X A μ s use Q (((sem C it).I ρ σ).bind fun s h => compLoop (compStep (.loc i) (sem C cond).T (sem C elt).E ρ) s.2 s.1 h) := p
  cases q1 : (sem C it).I ρ σ with
  | exc c h =>
    rw [q1] at p
    refine wpAny_comprehension_free (g := ⟨.Name x px, iter, ifs, 0⟩) (gs := []) rfl (HI.1 env) (closureFor_of fun p hp q => cx.frm.has p.1 (by rw [cx.kind]; exact ok.free p hp q)) ok.kind ok.locs (HI.2 cx ?_)
    rw [q1]; exact p
  | stuck => rw [q1] at p; exact p.elim
  | ok src σ₁ =>
    obtain ⟨xs, ck⟩ := src
    rw [q1] at p
    exact comp_core ok cx HI HE HT q1 (hq.imp (fun z => cx.ok.hnd z) fun z => z _ _ _ _ _ q1) p

/-- the value of a comprehension -/
theorem se_lc {m : MExpr} {res : Rho → MH → Res (List Val)} {e1 tgt iter : Expr} {ifs : List Expr} {pos : Pos} (hE : ∀ ρ h, (sem C m).E ρ h = (res ρ h).bind newList) (H : SC n C prog w B sc sm res e1 tgt iter ifs inner) : SE n C prog w B sc sm m (.ListComp e1 [⟨tgt, iter, ifs, 0⟩] inner pos) := fun {env ρ σ μ s A X Q} cx p => by
  rw [hE] at p
  rw [eval_ListComp]
  refine H cx ?_
  cases q2 : res ρ σ with
  | exc c h => rw [q2] at p; exact p
  | stuck => rw [q2] at p; exact p
  | ok vs σ' =>
    rw [q2] at p
    simp only [Res.bind_ok] at p
    refine fun μ' D Cn h' tk ys k m r st d1 d2 d3 d4 d5 d6 d7 d8 d9 d10 => ⟨m, d10, fun h'' sb => ?_⟩
    unfold newList at p
    split at p
    · rename_i hl
      refine p (μ' ++ [D]) _ h'' tk ?_ ?_ ⟨D, ?_, rfl⟩
      · have r' : HRel B μ' σ' h'' := r.other (P := fun b => b = Cn) (fun b o nb e => sameBut_keep sb b o nb e) (fun b z => z ▸ d2) (fun b z => z ▸ d7)
        exact r'.alloc (fun b o e => e) d1 d6 ⟨hl, ys, k, sameBut_keep sb D _ d3 d8, d9.mono (List.prefix_append _ _)⟩
      · refine ⟨st.pre.trans (List.prefix_append _ _), fun b o nm e => look_keep (fun o' => sameBut_keep sb b o' (fun z => by obtain ⟨o2, e2, _⟩ := look_elim e; rw [z, d5] at e2; cases e2)) (st.keep b o nm e), fun b hb nm => ?_⟩
        rcases List.mem_append.mp hb with hb | hb
        · exact st.fresh b hb nm
        · rw [List.mem_singleton.mp hb]; exact d4
      · rw [← r.len, List.getElem?_append_right (Nat.le_refl _), Nat.sub_self]; rfl
    · exact p.elim
theorem comp_E {elt tgt it cond : MExpr} (ρ : Rho) (h : MH) : (sem C (.comp elt tgt it cond)).E ρ h = (((sem C it).I ρ h).bind fun s h => compLoop (compStep tgt (sem C cond).T (sem C elt).E ρ) s.2 s.1 h).bind newList := by
  rw [Res.bind_assoc]; rfl

end
end Mine


-- part MiniCls3
set_option maxRecDepth 4000
set_option linter.unusedVariables false
namespace Mine
open PySem

section
variable {n : Nat} {C : Cf} {prog : Program} {w : World} {B : Heap} {sc : Scope} {sm : List (Str × Nat)} {g : GMap} {F : Nat → Option MFun} {mg mb : Str → Option Value}
variable {env : Env} {ρ : Rho} {σ : MH} {μ : List Addr} {s : Shared} {A : Around} {E : Value → Shared → Prop} {X : XE}

theorem listsOf_elim {h : MH} {v : Val} {xs : List Val} (e : listsOf h v = some xs) : ∃ i, v = .ref i ∧ h[i]? = some (.list xs) := by
  cases v with
  | ref i =>
    have e : (match h[i]? with | some (.list xs) => some xs | some (.ro _) => none | some (.tup _) => none | some (.inst _) => none | some .aux => none | none => none) = some xs := e
    cases q : h[i]? with
    | none => rw [q] at e; cases e
    | some o =>
      rw [q] at e
      cases o with
      | list ys => cases e; exact ⟨i, rfl, q⟩
      | _ => cases e
  | _ => cases e
theorem CorePost.step {use : Option (Value → Sem Unit)} {Q : Value → Shared → Prop} {x : Res (List Val)} {μ' : List Addr} {h' : Heap} {tk : Nat} (p : CorePost prog w B X A μ s use Q x) (st : Step μ μ' s.heap h') : CorePost prog w B X A μ' { s with heap := h', toks := tk } use Q x := by
  have old : ∀ {b : Addr} {μ'' : List Addr} {h'' : Heap}, Step μ' μ'' h' h'' → h'.get? b = none → b ∉ μ'' → s.heap.get? b = none := fun {b μ'' h''} st' e nm => by
    cases q : s.heap.get? b with
    | none => rfl
    | some o =>
      have n0 : b ∉ μ := fun z => nm ((st.pre.trans st'.pre).subset z)
      obtain ⟨o', e', _⟩ := look_elim (st.keep b _ n0 (look_of q)); rw [e'] at e; cases e
  cases x with
  | ok vs σ' => intro μ'' D Cn h'' tk' ys k m r st' d1 d2 d3 d4 d5 d6 d7 d8 d9 d10; exact p μ'' D Cn h'' tk' ys k m r (st.trans st') d1 d2 d3 (old st' d4 d1) (old st' d5 d2) d6 d7 d8 d9 d10
  | exc c h => exact PostX.step p st
  | stuck => exact p
theorem CorePost.bindR {γ δ : Type} {V : List Addr → γ → δ → Prop} {use : Option (Value → Sem Unit)} {Q : Value → Shared → Prop} {Q' : δ → Shared → Prop} {r : Res γ} {f : γ → MH → Res (List Val)} (cx : Cx n B X A env sc sm ρ μ σ s.heap) (p : CorePost prog w B X A μ s use Q (r.bind f))
    (k : ∀ v σ1 μ1 v' h1 tk, Cx n B X A env sc sm ρ μ1 σ1 h1 → Step μ μ1 s.heap h1 → V μ1 v v' → CorePost prog w B X A μ1 { s with heap := h1, toks := tk } use Q (f v σ1) → Q' v' { s with heap := h1, toks := tk }) : Post B X V μ s Q' r := by
  cases r with
  | ok v σ1 => intro μ1 v' h1 tk r1 st hv; exact k v σ1 μ1 v' h1 tk (cx.step st r1) st hv (CorePost.step (x := f v σ1) p st)
  | exc c h => exact p
  | stuck => exact p

/-- a comprehension over zip of two empty lists -/
theorem sc_compz [Small n] {a b : MExpr} {x : Str} {y z e1 tgt : Expr} {p1 p2 : Pos} {inner : Scope} (G : GOk g F B mg mb) (h : globK g sc x (.ty "zip") = true) (hk : inner.kind = .function) (hnc : ∀ p ∈ inner.names, p.2 ≠ .cell) (hlo : ∀ p ∈ inner.names, p.2 = .local → inner.names.lookup p.1 = some .local)
    (hfr : ∀ p ∈ inner.names, p.2 = .free → sc.names.lookup p.1 = some .cell ∨ sc.names.lookup p.1 = some .free) (hs : isStar y = false) (hs' : isStar z = false) (ha : SE n C prog w B sc sm a y) (hb : SE n C prog w B sc sm b z) :
    SC n C prog w B sc sm (fun ρ σ => ((sem C a).E ρ σ).bind fun v h => ((sem C b).E ρ h).bind fun w h => compzL h v w) e1 tgt (.Call (.Name x p1) [y, z] [] p2) [] inner := fun {env ρ σ μ s A X use Q pos cpos} cx p => by
  have p : CorePost prog w B X A μ s use Q (((sem C a).E ρ σ).bind fun v h => ((sem C b).E ρ h).bind fun w h => compzL h v w) := p
  refine wpAny_comprehension_free (g := ⟨tgt, .Call (.Name x p1) [y, z] [] p2, [], 0⟩) (gs := []) rfl (fun _ => rfl) (closureFor_of fun p hp q => cx.frm.has p.1 (by rw [cx.kind]; exact hfr p hp q)) hk hlo ?_
  refine call_bi G h (G.ty x _ (globK_split h).2.2) (.inl ⟨_, rfl⟩) cx (noStar_two hs hs') (two_spliced hs hs' (ha cx (p.bindR cx fun v σ1 μ1 v' h1 tk cx1 st1 hv q => hb cx1 (q.bindR (s := { s with heap := h1, toks := tk }) cx1 fun u σ2 μ2 u' h2 tk2 cx2 st2 hu q2 => ?_))))
  have q2 : CorePost prog w B X A μ2 { s with heap := h2, toks := tk2 } use Q (compzL σ2 v u) := q2
  unfold compzL at q2
  cases hx1 : listsOf σ2 v with
  | none => rw [hx1] at q2; exact q2.elim
  | some xs =>
  cases hy1 : listsOf σ2 u with
  | none => rw [hx1, hy1] at q2; exact q2.elim
  | some ys =>
  rw [hx1, hy1] at q2
  have q4 : CorePost prog w B X A μ2 { s with heap := h2, toks := tk2 } use Q (if (xs.isEmpty && ys.isEmpty) = true then .ok [] σ2 else .stuck) := q2
  obtain ⟨i, rfl, gi⟩ := listsOf_elim hx1
  obtain ⟨j, rfl, gj⟩ := listsOf_elim hy1
  obtain ⟨ai, ei, rfl⟩ := hv.mono st2.pre
  obtain ⟨aj, ej, rfl⟩ := hu
  split at q4
  · rename_i hem
    rw [Bool.and_eq_true, List.isEmpty_iff, List.isEmpty_iff] at hem
    obtain ⟨rfl, rfl⟩ := hem
    obtain ⟨_, xs', n1, gx, vx⟩ := cx2.rel.at ei gi
    obtain ⟨_, ys', n2, gy, vy⟩ := cx2.rel.at ej gj
    rw [show xs' = [] from vx] at gx
    rw [show ys' = [] from vy] at gy
    refine call_zip_2 (s := { s with heap := h2, toks := tk2 }) (isList_of gx) (isList_of gy) fun h3 z1 z2 z3 z4 z5 z6 z7 => ?_
    refine wpAny_pyIter_zip (s := { s with heap := h3, toks := tk2 }) z1 ?_
    refine wpAny_newObj_type (wpAny_newFunctionEnv (s := { s with heap := h3.push _, toks := tk2 }) hnc (by intro y hy; simp at hy) (fun h4 hns4 hsb4 => ?_) hk)
    dsimp only at hns4 hsb4 ⊢
    generalize hH2 : h3.push { cls := .type "list", dict := none, data := .seq ([] : List Value).toArray } = H2 at hns4 hsb4 ⊢
    have hC : H2.objs.size = h3.objs.size + 1 := by rw [← hH2, Heap.size_push]
    have k3 : ∀ b o, h3.get? b = some o → h4.get? b = some o := fun b o e => hsb4.extBut b o (by rw [hC]; exact Nat.ne_of_lt (Nat.lt_succ_of_lt (Heap.lt_size e))) (Heap.get?_push_of_some _ (hH2 ▸ Heap.get?_push_of_some _ e))
    have hD4 : h4.get? h3.objs.size = some (listObj [] 0) := hsb4.extBut _ _ (by rw [hC]; exact Nat.ne_of_lt (Nat.lt_succ_self _)) (Heap.get?_push_of_some _ (hH2 ▸ Heap.get?_push_size _ rfl))
    have lx := Heap.lt_size gx
    have ly := Heap.lt_size gy
    have D : ZipApart (h2.objs.size + 4) (h2.objs.size + 2) (h2.objs.size + 3) h2.objs.size (h2.objs.size + 1) ai aj := by
      have n1 : ∀ m : Nat, ai ≠ h2.objs.size + m := fun m => Nat.ne_of_lt (Nat.lt_of_lt_of_le lx (Nat.le_add_right _ _))
      have n2 : ∀ m : Nat, aj ≠ h2.objs.size + m := fun m => Nat.ne_of_lt (Nat.lt_of_lt_of_le ly (Nat.le_add_right _ _))
      have n3 : ∀ m k : Nat, m ≠ k → h2.objs.size + m ≠ h2.objs.size + k := fun m k h e => h (Nat.add_left_cancel e)
      have n4 : ∀ m : Nat, m ≠ 0 → h2.objs.size + m ≠ h2.objs.size := fun m h e => h (by exact Nat.add_left_cancel (k := 0) (by rw [Nat.add_zero]; exact e))
      constructor <;> first | exact n1 _ | exact n2 _ | exact n3 _ _ (by decide) | exact n4 _ (by decide) | exact Ne.symm (n4 _ (by decide)) | exact n1 0 | exact n2 0
    have z6' : h3.objs.size = h2.objs.size + 5 := z6
    have loop : codeAny (model prog w) A (.compLoop (.ListComp e1 [⟨tgt, .Call (.Name x p1) [y, z] [] p2, [], 0⟩] inner pos) 0 (.ref (h2.objs.size + 4)) (.ref h3.objs.size) (cenvOf env inner H2.objs.size))
        (compPost (model prog w) A X.E use Q (.ref h3.objs.size) H2.objs.size) { s with heap := h4, toks := tk2 + ([] : List (Str × Value)).length } := by
      refine codeAny_loop rfl (fun _ s' => s' = { s with heap := h4, toks := tk2 + ([] : List (Str × Value)).length }) (fun n' s' hI => ?_) 0 rfl
      subst hI
      show wpAny (model prog w) A ((compTurn (.ListComp e1 [⟨tgt, .Call (.Name x p1) [y, z] [] p2, [], 0⟩] inner pos) 0 (.ref (h2.objs.size + 4)) (.ref h3.objs.size) (cenvOf env inner H2.objs.size)).onRaise (fun x => do noteFrame x (cenvOf env inner H2.objs.size); theTreesLotGoes x)) _ _ _
      refine wpAny_noted ?_
      rw [compTurn_list]
      refine wpAny_bind (wpAny_standAt (wpAny_bind (wpAny_pyNext_zip_end (s := { s with heap := h4, toks := tk2 + ([] : List (Str × Value)).length }) cx.ok.handled D (k3 _ _ z1) (k3 _ _ z2) (k3 _ _ z3) (z4.at fun o e => k3 _ o e) (z5.at fun o e => k3 _ o e) (isList_of (k3 _ _ (z7 _ _ gx))) (isList_of (k3 _ _ (z7 _ _ gy))) (.inl rfl) fun h5 k5 => ?_)))
      have hg : ∀ {u v : Nat}, v < u → u ≠ v := fun h => Nat.ne_of_gt h
      have zC : H2.objs.size = h2.objs.size + 6 := by rw [hC, z6']
      have hD5 : h5.get? h3.objs.size = some (listObj [] 0) := k5 _ _ (hg (by rw [z6']; omega)) (hg (by rw [z6']; omega)) (hg (by rw [z6']; omega)) (hg (by rw [z6']; omega)) hD4
      have nsC : ∃ m, h5.Ns H2.objs.size m := ⟨_, Ns_at hns4 fun o e => k5 _ o (hg (by rw [zC]; omega)) (hg (by rw [zC]; omega)) (hg (by rw [zC]; omega)) (hg (by rw [zC]; omega)) e⟩
      obtain ⟨m, nsC⟩ := nsC
      refine wpAny_pure ?_
      have k6 : ∀ b o, h2.get? b = some o → h5.get? b = some o := fun b o e => by
        have lb := Heap.lt_size e
        have nl : ∀ m : Nat, b ≠ h2.objs.size + m := fun m => Nat.ne_of_lt (Nat.lt_of_lt_of_le lb (Nat.le_add_right _ _))
        exact k5 _ _ (nl 4) (nl 3) (nl 0) (nl 1) (k3 _ _ (z7 _ _ e))
      have none_of : ∀ m : Nat, h2.get? (h2.objs.size + m) = none := fun m => by
        cases e : h2.get? (h2.objs.size + m) with
        | none => rfl
        | some o => exact absurd (Heap.lt_size e) (Nat.not_lt.mpr (Nat.le_add_right _ _))
      have nD : h2.get? h3.objs.size = none := by rw [z6']; exact none_of 5
      have nC : h2.get? H2.objs.size = none := by rw [zC]; exact none_of 6
      have nm : ∀ b, h2.get? b = none → b ∉ μ2 := fun b e q => by obtain ⟨o, g⟩ := cx2.rel.alive q; rw [e] at g; cases g
      have nB : ∀ b, h2.get? b = none → B.get? b = none := fun b e => by
        cases q : B.get? b with
        | none => rfl
        | some o => have := cx2.rel.base _ _ q; rw [e] at this; cases this
      exact q4 μ2 _ _ h5 _ [] 0 m (cx2.rel.grow k6) (Step.grow k6) (nm _ nD) (nm _ nC) (by rw [hC]; exact Nat.ne_of_lt (Nat.lt_succ_self _)) nD nC (nB _ nD) (nB _ nC) hD5 rfl nsC
    exact codeAny_compStart_list loop (wpAny_pyIter_zip (s := { s with heap := h4, toks := tk2 + ([] : List (Str × Value)).length }) (k3 _ _ z1) loop)
  · exact q4.elim
end
end Mine


-- part MiniAllE
set_option maxRecDepth 4000
set_option linter.unusedVariables false
namespace Mine
open PySem

section
variable {n : Nat} {C : Cf} {prog : Program} {w : World} {B : Heap} {sc : Scope} {sm : List (Str × Nat)} {g : GMap} {F : Nat → Option MFun} {mg mb : Str → Option Value}
variable {env : Env} {ρ : Rho} {σ : MH} {μ : List Addr} {s : Shared} {A : Around} {E : Value → Shared → Prop} {X : XE}

noncomputable def PE (n : Nat) (C : Cf) (prog : Program) (w : World) (B : Heap) (g : GMap) (m : MExpr) : Prop := ∀ sc sm,
  (∀ e, (chk g m sc sm).E e = true → SE n C prog w B sc sm m e ∧ ST n C prog w B sc sm m e ∧ ∀ env x, foldedSetIterable e env x = pure x) ∧
  (∀ es, (chk g m sc sm).Es es = true → SS n C prog w B sc sm m es ∧ NoStar es ∧ ∀ x : Option Expr, x.toList = es → SO n C prog w B sc sm m x) ∧
  (∀ e, (chk g m sc sm).I e = true → SI n C prog w B sc sm m e)

theorem pe_of_E {m : MExpr} {f : Scope → List (Str × Nat) → Expr → Bool} (hm : ∀ sc sm, chk g m sc sm = ckE (f sc sm))
    (h : ∀ sc sm e, f sc sm e = true → SE n C prog w B sc sm m e ∧ ST n C prog w B sc sm m e ∧ ∀ env x, foldedSetIterable e env x = pure x) : PE n C prog w B g m := fun sc sm => by
  rw [hm]
  exact ⟨h sc sm, fun es q => (Bool.false_ne_true q).elim, fun e q => (Bool.false_ne_true q).elim⟩

theorem plain3 {m : MExpr} {e : Expr} (h : SE n C prog w B sc sm m e) (ht : (sem C m).T = tOf (sem C m).E) (he : ∀ env whole, isTrue e env whole = (do let v ← whole; standAt e.pos; holding [v] (truthy v))) (hf : ∀ env x, foldedSetIterable e env x = pure x) :
    SE n C prog w B sc sm m e ∧ ST n C prog w B sc sm m e ∧ ∀ env x, foldedSetIterable e env x = pure x := ⟨h, ST.plain h ht he, hf⟩

theorem compz_sc [Small n] {a b : MExpr} (G : GOk g F B mg mb) (ia : PE n C prog w B g a) (ib : PE n C prog w B g b) {e : Expr} (q : (chk g (.compz a b) sc sm).E e = true) :
    ∃ e1 tgt iter inner pos, e = .ListComp e1 [⟨tgt, iter, [], 0⟩] inner pos ∧ SC n C prog w B sc sm (fun ρ σ => ((sem C a).E ρ σ).bind fun v h => ((sem C b).E ρ h).bind fun w h => compzL h v w) e1 tgt iter [] inner := by
  obtain ⟨e1, gs, sc', p, rfl, k⟩ := onComp_elim q
  obtain ⟨gn, rfl, k'⟩ := one_elim k
  obtain ⟨tg, iter, ifs, is⟩ := gn
  simp only [Bool.and_eq_true, beq_iff_eq, List.isEmpty_iff] at k'
  obtain ⟨⟨⟨⟨q1, rfl⟩, rfl⟩, q2⟩, q3⟩ := k'
  obtain ⟨x, px, es, p', rfl, k2⟩ := onCall_elim q3
  rw [Bool.and_eq_true] at k2
  obtain ⟨y, z, rfl, k3⟩ := two_elim k2.2
  simp only [Bool.and_eq_true, Bool.not_eq_true'] at k3
  obtain ⟨⟨⟨q4, q5⟩, q6⟩, q7⟩ := k3
  unfold compScOk2 at q2
  simp only [Bool.and_eq_true, beq_iff_eq] at q2
  obtain ⟨hk, al⟩ := q2
  rw [List.all_eq_true] at al
  refine ⟨e1, tg, _, sc', p, rfl, sc_compz G k2.1 hk (fun p hp e => by have := al p hp; simp [e] at this) (fun p hp e => by have := al p hp; simp [e] at this; exact this) (fun p hp e => by have := al p hp; simp [e] at this; exact this) q6 q7 ((ia sc sm).1 _ q4).1 ((ib sc sm).1 _ q5).1⟩

theorem allE [sn : Small n] (G : GOk g F B mg mb) (cs : CS n C prog w g F B) : ∀ m, PE n C prog w B g m := by
  intro m
  induction m with
  | const v =>
    refine pe_of_E (fun _ _ => rfl) fun sc sm e q => ?_
    obtain ⟨c, n', p, rfl, k⟩ := onConst_elim q
    exact plain3 (se_const k) rfl (fun _ _ => rfl) (fun _ _ => rfl)
  | gconst v =>
    refine pe_of_E (fun _ _ => rfl) fun sc sm e q => ?_
    obtain ⟨x, p, rfl, k⟩ := onName_elim q
    exact plain3 (se_gconst G k) rfl (fun _ _ => rfl) (fun _ _ => rfl)
  | loc i =>
    refine pe_of_E (fun _ _ => rfl) fun sc sm e q => ?_
    obtain ⟨x, p, rfl, k⟩ := onName_elim q
    exact plain3 (se_loc k) rfl (fun _ _ => rfl) (fun _ _ => rfl)
  | bin op a b ia ib =>
    refine pe_of_E (fun _ _ => rfl) fun sc sm e q => ?_
    obtain ⟨l, o, r, p, rfl, k⟩ := onBin_elim q
    simp only [Bool.and_eq_true, decide_eq_true_eq] at k
    obtain ⟨⟨rfl, q1⟩, q2⟩ := k
    exact plain3 (se_bin (op := op) ((ia sc sm).1 _ q1).1 ((ib sc sm).1 _ q2).1) rfl (fun _ _ => rfl) (fun _ _ => rfl)
  | un op a ia =>
    refine pe_of_E (fun _ _ => rfl) fun sc sm e q => ?_
    obtain ⟨o, x, p, rfl, k⟩ := onUn_elim q
    simp only [Bool.and_eq_true, decide_eq_true_eq] at k
    obtain ⟨rfl, q1⟩ := k
    obtain ⟨h1, h2, _⟩ := (ia sc sm).1 _ q1
    exact ⟨se_un h1, st_un h1 h2, fun _ _ => rfl⟩
  | and a b ia ib =>
    refine pe_of_E (fun _ _ => rfl) fun sc sm e q => ?_
    obtain ⟨o, es, p, rfl, k⟩ := onBool_elim q
    rw [Bool.and_eq_true] at k
    have qo := isAnd_elim k.1
    subst qo
    obtain ⟨x, y, r, rfl, k'⟩ := cons2_elim k.2
    rw [Bool.and_eq_true] at k'
    obtain ⟨h1, h2, _⟩ := (ia sc sm).1 _ k'.1
    obtain ⟨h3, h4, _⟩ := (ib sc sm).1 _ k'.2
    exact ⟨se_and h1 h3, st_and h2 h4, fun _ _ => rfl⟩
  | or a b ia ib =>
    refine pe_of_E (fun _ _ => rfl) fun sc sm e q => ?_
    obtain ⟨o, es, p, rfl, k⟩ := onBool_elim q
    rw [Bool.and_eq_true] at k
    have qo := isOr_elim k.1
    subst qo
    obtain ⟨x, y, r, rfl, k'⟩ := cons2_elim k.2
    rw [Bool.and_eq_true] at k'
    obtain ⟨h1, h2, _⟩ := (ia sc sm).1 _ k'.1
    obtain ⟨h3, h4, _⟩ := (ib sc sm).1 _ k'.2
    exact ⟨se_or h1 h3, st_or h2 h4, fun _ _ => rfl⟩
  | cmp op a b ia ib =>
    refine pe_of_E (fun _ _ => rfl) fun sc sm e q => ?_
    obtain ⟨l, os, rs, p, rfl, k⟩ := onCmp_elim q
    obtain ⟨o, rfl, k'⟩ := one_elim k
    obtain ⟨r, rfl, k''⟩ := one_elim k'
    simp only [Bool.and_eq_true, decide_eq_true_eq, Bool.not_eq_true'] at k''
    obtain ⟨⟨⟨rfl, q1⟩, q2⟩, q3⟩ := k''
    obtain ⟨h1, _, _⟩ := (ia sc sm).1 _ q1
    obtain ⟨h2, _, _⟩ := (ib sc sm).1 _ q2
    exact ⟨se_cmp q3 h1 h2, st_cmp q3 h1 h2, fun _ _ => rfl⟩
  | cmp2 o₁ o₂ a b c ia ib ic =>
    refine pe_of_E (fun _ _ => rfl) fun sc sm e q => ?_
    obtain ⟨l, os, rs, p, rfl, k⟩ := onCmp_elim q
    obtain ⟨p1, p2, rfl, k'⟩ := two_elim k
    obtain ⟨r1, r2, rfl, k''⟩ := two_elim k'
    simp only [Bool.and_eq_true, decide_eq_true_eq, Bool.not_eq_true'] at k''
    obtain ⟨⟨⟨⟨⟨rfl, rfl⟩, q1⟩, q2⟩, q3⟩, q4⟩ := k''
    obtain ⟨h1, _, _⟩ := (ia sc sm).1 _ q1
    obtain ⟨h2, _, _⟩ := (ib sc sm).1 _ q2
    obtain ⟨h3, _, _⟩ := (ic sc sm).1 _ q3
    exact ⟨se_cmp2 q4 h1 h2 h3, st_cmp2 q4 h1 h2 h3, fun _ _ => rfl⟩
  | isinst t a ia =>
    refine pe_of_E (fun _ _ => rfl) fun sc sm e q => ?_
    obtain ⟨x, p, es, p', rfl, k⟩ := onCall_elim q
    obtain ⟨y, zz, rfl, k'⟩ := two_elim k
    obtain ⟨z, p2, rfl, k''⟩ := onName_elim k'
    simp only [Bool.and_eq_true, Bool.not_eq_true'] at k''
    obtain ⟨⟨⟨q1, q2⟩, q3⟩, q4⟩ := k''
    exact plain3 (se_isinst G q1 q2 q4 ((ia sc sm).1 _ q3).1) rfl (fun _ _ => rfl) (fun _ _ => rfl)
  | call f args ia =>
    refine pe_of_E (fun _ _ => rfl) fun sc sm e q => ?_
    obtain ⟨x, p, es, p', rfl, k⟩ := onCall_elim q
    rw [Bool.and_eq_true] at k
    obtain ⟨h1, h2, _⟩ := (ia sc sm).2.1 _ k.2
    exact plain3 (se_call G cs k.1 h2 h1) rfl (fun _ _ => rfl) (fun _ _ => rfl)
  | bi b args ia =>
    refine pe_of_E (fun _ _ => rfl) fun sc sm e q => ?_
    obtain ⟨x, p, es, p', rfl, k⟩ := onCall_elim q
    rw [Bool.and_eq_true] at k
    obtain ⟨h1, h2, _⟩ := (ia sc sm).2.1 _ k.2
    exact plain3 (se_bi G k.1 h2 h1) rfl (fun _ _ => rfl) (fun _ _ => rfl)
  | lrange a ia => exact pe_of_E (f := fun _ _ _ => false) (fun _ _ => rfl) fun sc sm e q => by cases q
  | meth m o args io ia =>
    refine pe_of_E (fun _ _ => rfl) fun sc sm e q => ?_
    obtain ⟨f, es, pos, rfl, k⟩ := onCallX_elim q
    obtain ⟨eo, nm, apos, rfl, k'⟩ := onAttr_elim k
    simp only [Bool.and_eq_true, decide_eq_true_eq] at k'
    obtain ⟨⟨⟨⟨⟨rfl, q1⟩, q2⟩, q3⟩, q4⟩, q5⟩ := k'
    obtain ⟨h1, h2, _⟩ := (ia sc sm).2.1 _ q2
    exact plain3 (se_meth (m := m) q4 q3 q5 h2 ((io sc sm).1 _ q1).1 h1) rfl (fun _ _ => rfl) (fun _ _ => rfl)
  | lst a ia =>
    refine pe_of_E (fun _ _ => rfl) fun sc sm e q => ?_
    obtain ⟨l, p, rfl, k⟩ := onList_elim q
    exact plain3 (se_lst ((ia sc sm).2.1 _ k).1) rfl (fun _ _ => rfl) (fun _ _ => rfl)
  | tup a ia =>
    refine pe_of_E (fun _ _ => rfl) fun sc sm e q => ?_
    obtain ⟨l, c, p, rfl, k⟩ := onTup_elim q
    exact plain3 (se_tup ((ia sc sm).2.1 _ k).1) rfl (fun _ _ => rfl) (fun _ _ => rfl)
  | sub a b ia ib =>
    refine pe_of_E (fun _ _ => rfl) fun sc sm e q => ?_
    obtain ⟨l, r, p, rfl, k⟩ := onSub_elim q
    simp only [Bool.and_eq_true, Bool.not_eq_true'] at k
    obtain ⟨⟨q1, q2⟩, q3⟩ := k
    exact plain3 (se_sub q3 ((ia sc sm).1 _ q1).1 ((ib sc sm).1 _ q2).1) rfl (fun _ _ => rfl) (fun _ _ => rfl)
  | slice a lo hi ia il ih =>
    refine pe_of_E (fun _ _ => rfl) fun sc sm e q => ?_
    obtain ⟨l, r, p, rfl, k⟩ := onSub_elim q
    obtain ⟨x, y, z, p2, rfl, k'⟩ := onSlice_elim k
    simp only [Bool.and_eq_true, Option.isNone_iff_eq_none] at k'
    obtain ⟨rfl, ⟨q1, q2⟩, q3⟩ := k'
    exact plain3 (se_slice ((ia sc sm).1 _ q1).1 (((il sc sm).2.1 _ q2).2.2 _ rfl) (((ih sc sm).2.1 _ q3).2.2 _ rfl)) rfl (fun _ _ => rfl) (fun _ _ => rfl)
  | srev a ia => exact pe_of_E (f := fun _ _ _ => false) (fun _ _ => rfl) fun sc sm e q => by cases q
  | comp elt tgt it cond ie _ ii ic =>
    refine pe_of_E (fun _ _ => rfl) fun sc sm e q => ?_
    obtain ⟨e1, gs, sc', p, rfl, k⟩ := onComp_elim q
    cases tgt with
    | loc i =>
      obtain ⟨gn, rfl, k'⟩ := one_elim k
      obtain ⟨tg, iter, ifs, a⟩ := gn
      obtain ⟨x, p2, hx, k''⟩ := onName_elim k'
      simp only at hx
      subst hx
      simp only [Bool.and_eq_true, beq_iff_eq] at k''
      obtain ⟨⟨⟨⟨⟨⟨⟨rfl, q1⟩, q2⟩, q3⟩, q4⟩, q5⟩, q6⟩, q7⟩ := k''
      refine plain3 (se_lc comp_E (sc_comp (.inl sn.lt) (compOk_of q1 q2 q4) ((ii sc sm).2.2 _ q5) ((ie _ _).1 _ q6).1 ?_)) rfl (fun _ _ => rfl) (fun _ _ => rfl)
      split at q7
      · rw [isTT_eq q7]; exact test_nil
      · exact test_one ((ic _ _).1 _ q7).2.1
      · cases q7
    | _ => cases k
  | attr o k io =>
    refine pe_of_E (fun _ _ => rfl) fun sc sm e q => ?_
    obtain ⟨eo, nm, p, rfl, k'⟩ := onAttr_elim q
    simp only [Bool.and_eq_true, decide_eq_true_eq] at k'
    obtain ⟨⟨⟨⟨q1, rfl⟩, q2⟩, q3⟩, q4⟩ := k'
    obtain ⟨x, px, rfl, _⟩ := onName_elim q3
    exact plain3 (se_attr G q1 q2 ((io sc sm).1 _ q4).1) rfl (fun _ _ => rfl) (fun _ _ => rfl)
  | mcall f o args io ia =>
    refine pe_of_E (fun _ _ => rfl) fun sc sm e q => ?_
    obtain ⟨fe, es, pos, rfl, k⟩ := onCallX_elim q
    obtain ⟨eo, nm, apos, rfl, k'⟩ := onAttr_elim k
    simp only [Bool.and_eq_true, decide_eq_true_eq, Bool.not_eq_true', beq_iff_eq (α := Option GI)] at k'
    obtain ⟨⟨⟨⟨⟨⟨⟨q1, q2⟩, q3⟩, q4⟩, q5⟩, q6⟩, q7⟩, q8⟩ := k'
    obtain ⟨x, px, rfl, _⟩ := onName_elim q4
    obtain ⟨h1, h2, _⟩ := (ia sc sm).2.1 _ q6
    exact plain3 (se_mcall G cs q1 q2 (fun z => by rw [List.contains_iff_mem.mpr z] at q3; cases q3) q7 q8 h2 ((io sc sm).1 _ q5).1 h1) rfl (fun _ _ => rfl) (fun _ _ => rfl)
  | newT f =>
    refine pe_of_E (fun _ _ => rfl) fun sc sm e q => ?_
    obtain ⟨x, p, es, p', rfl, k⟩ := onCall_elim q
    simp only [Bool.and_eq_true, decide_eq_true_eq, List.isEmpty_iff] at k
    obtain ⟨⟨q1, q2⟩, rfl⟩ := k
    exact plain3 (se_newT G cs q1 q2) rfl (fun _ _ => rfl) (fun _ _ => rfl)
  | compz a b ia ib =>
    refine pe_of_E (fun _ _ => rfl) fun sc sm e q => ?_
    obtain ⟨e1, tgt, iter, inner, pos, rfl, H⟩ := compz_sc G ia ib q
    exact plain3 (se_lc (fun _ _ => rfl) H) rfl (fun _ _ => rfl) (fun _ _ => rfl)
  | nil =>
    intro sc sm
    refine ⟨fun e q => (Bool.false_ne_true q).elim, fun es q => ?_, fun e q => (Bool.false_ne_true q).elim⟩
    have : es = [] := List.isEmpty_iff.mp q
    subst this
    refine ⟨ss_nil, fun e he => (List.not_mem_nil he).elim, fun x hx => ?_⟩
    cases x with
    | none => exact so_nil
    | some e => cases hx
  | cons a b ia ib =>
    intro sc sm
    refine ⟨fun e q => (Bool.false_ne_true q).elim, fun es q => ?_, fun e q => (Bool.false_ne_true q).elim⟩
    cases es with
    | nil => exact (Bool.false_ne_true q).elim
    | cons e r =>
      have q : ((chk g a sc sm).E e && !isStar e && (chk g b sc sm).Es r) = true := q
      simp only [Bool.and_eq_true, Bool.not_eq_true'] at q
      obtain ⟨⟨q1, q2⟩, q3⟩ := q
      obtain ⟨h1, _, _⟩ := (ia sc sm).1 _ q1
      obtain ⟨h2, h3, _⟩ := (ib sc sm).2.1 _ q3
      refine ⟨ss_cons q2 h1 h2, fun y hy => ?_, fun x hx => ?_⟩
      · rcases List.mem_cons.mp hy with rfl | hy
        · exact q2
        · exact h3 y hy
      · cases x with
        | none => cases hx
        | some e' =>
          cases hx
          cases b <;> first | exact so_cons h1 | exact (Bool.false_ne_true q3).elim
  | irange a ia =>
    intro sc sm
    refine ⟨fun e q => (Bool.false_ne_true q).elim, fun es q => (Bool.false_ne_true q).elim, fun e q => ?_⟩
    obtain ⟨x, p, es, p', rfl, k⟩ := onCall_elim q
    obtain ⟨y, rfl, k'⟩ := one_elim k
    simp only [Bool.and_eq_true, Bool.not_eq_true'] at k'
    obtain ⟨⟨q1, q2⟩, q3⟩ := k'
    exact si_range G q1 q3 ((ia sc sm).1 _ q2).1
  | irange2 a b ia ib =>
    intro sc sm
    refine ⟨fun e q => (Bool.false_ne_true q).elim, fun es q => (Bool.false_ne_true q).elim, fun e q => ?_⟩
    obtain ⟨x, p, es, p', rfl, k⟩ := onCall_elim q
    obtain ⟨y, z, rfl, k'⟩ := two_elim k
    simp only [Bool.and_eq_true, Bool.not_eq_true'] at k'
    obtain ⟨⟨⟨⟨q1, q2⟩, q3⟩, q4⟩, q5⟩ := k'
    exact si_range2 G q1 q4 q5 ((ia sc sm).1 _ q2).1 ((ib sc sm).1 _ q3).1
  | iobj a ia =>
    intro sc sm
    refine ⟨fun e q => (Bool.false_ne_true q).elim, fun es q => (Bool.false_ne_true q).elim, fun e q => ?_⟩
    obtain ⟨h1, _, h2⟩ := (ia sc sm).1 _ (show (chk g a sc sm).E e = true from q)
    exact si_obj h2 h1

end
end Mine


-- part MiniStmt
set_option maxRecDepth 4000
set_option linter.unusedVariables false
namespace Mine
open PySem

noncomputable def Own (env : Env) (b : Addr) : Prop := b = env.locals ∨ ∃ x, env.cells.lookup x = some b

structure StepF (env : Env) (μ μ' : List Addr) (h h' : Heap) : Prop where
  pre : μ <+: μ'
  keep : ∀ b o, b ∉ μ → ¬ Own env b → look h b = some o → look h' b = some o
  fresh : ∀ b, b ∈ μ' → b ∉ μ → h.get? b = none
  own : ∀ b o, Own env b → h.get? b = some o → ∃ o', h'.get? b = some o'

theorem StepF.refl {env : Env} {μ : List Addr} {h : Heap} : StepF env μ μ h h := ⟨List.prefix_refl _, fun _ _ _ _ e => e, fun _ x y => absurd x y, fun _ o _ e => ⟨o, e⟩⟩
theorem StepF.notMem {env : Env} {μ μ' : List Addr} {h h' : Heap} (s : StepF env μ μ' h h') {b : Addr} {o : Obj} (n : b ∉ μ) (e : h.get? b = some o) : b ∉ μ' := fun q => by
  rw [s.fresh b q n] at e; cases e
theorem StepF.alive {env : Env} {μ μ' : List Addr} {h h' : Heap} (s : StepF env μ μ' h h') {b : Addr} {o : Obj} (n : b ∉ μ) (e : h.get? b = some o) : ∃ o', h'.get? b = some o' := by
  by_cases q : Own env b
  · exact s.own b o q e
  · obtain ⟨o', e', _⟩ := look_elim (s.keep b _ n q (look_of e)); exact ⟨o', e'⟩
theorem StepF.trans {env : Env} {μ μ' μ'' : List Addr} {h h' h'' : Heap} (s : StepF env μ μ' h h') (t : StepF env μ' μ'' h' h'') : StepF env μ μ'' h h'' :=
  ⟨s.pre.trans t.pre, fun b o n q e => t.keep b o (by obtain ⟨o', e', _⟩ := look_elim e; exact s.notMem n e') q (s.keep b o n q e), fun b x y => by
    by_cases q : b ∈ μ'
    · exact s.fresh b q y
    · cases e : h.get? b with
      | none => rfl
      | some o => (obtain ⟨o', e'⟩ := s.alive y e; rw [t.fresh b x q] at e'; exact (by cases e')), fun b o q e => let ⟨o', e'⟩ := s.own b o q e; t.own b o' q e'⟩
theorem Step.toF {env : Env} {μ μ' : List Addr} {h h' : Heap} (s : Step μ μ' h h') (ho : ∀ b, Own env b → b ∉ μ) : StepF env μ μ' h h' :=
  ⟨s.pre, fun b o n _ e => s.keep b o n e, s.fresh, fun b o q e => by obtain ⟨o', e', _⟩ := look_elim (s.keep b _ (ho b q) (look_of e)); exact ⟨o', e'⟩⟩
theorem Frm.ownMu {B : Heap} {env : Env} {μ : List Addr} {h : Heap} (f : Frm B env μ h) : ∀ b, Own env b → b ∉ μ := fun b q => by
  rcases q with rfl | ⟨x, q⟩
  · exact f.locMu
  · exact (f.cell x b q).2.2.1
theorem Frm.ownAlive {B : Heap} {env : Env} {μ : List Addr} {h : Heap} (f : Frm B env μ h) : ∀ b, Own env b → ∃ o, h.get? b = some o := fun b q => by
  rcases q with rfl | ⟨x, q⟩
  · obtain ⟨m, n⟩ := f.ns; exact Ns_alive n
  · obtain ⟨⟨v, o, e, _⟩, _⟩ := f.cell x b q; exact ⟨o, e⟩

/-- the way to an exception, the frame's own things aside -/
structure StepXF (env : Env) (μ μ' : List Addr) (h base h' : Heap) : Prop where
  pre : μ <+: μ'
  keep : ∀ b o, b ∉ μ → ¬ Own env b → look h b = some o → look h' b = some o
  fresh : ∀ b, b ∈ μ' → b ∉ μ → h.get? b = none
  based : ∀ b o, b ∉ μ → ¬ Own env b → look h b = some o → (∀ es ep, o.data ≠ .dict es ep) → ∃ o', base.get? b = some o'
theorem StepX.toF {env : Env} {μ μ' : List Addr} {h base h' : Heap} (x : StepX μ μ' h base h') : StepXF env μ μ' h base h' :=
  ⟨x.step.pre, fun b o n _ e => x.step.keep b o n e, x.step.fresh, fun b o n _ e nd => x.based b o n e nd⟩
theorem StepF.transX {env : Env} {μ μ' μ'' : List Addr} {h h' base h'' : Heap} (s : StepF env μ μ' h h') (t : StepXF env μ' μ'' h' base h'') : StepXF env μ μ'' h base h'' :=
  ⟨s.pre.trans t.pre, fun b o n q e => t.keep b o (by obtain ⟨o', e', _⟩ := look_elim e; exact s.notMem n e') q (s.keep b o n q e), fun b x y => by
    by_cases q : b ∈ μ'
    · exact s.fresh b q y
    · cases e : h.get? b with
      | none => rfl
      | some o => (obtain ⟨o', e'⟩ := s.alive y e; rw [t.fresh b x q] at e'; exact (by cases e')),
    fun b o n q e nd => t.based b o (by obtain ⟨o', e', _⟩ := look_elim e; exact s.notMem n e') q (s.keep b o n q e) nd⟩
theorem StepXF.hop {env : Env} {μ μ' : List Addr} {h base h' h'' : Heap} (x : StepXF env μ μ' h base h') (s1 : base.StaysIn h') (s2 : base.StaysIn h'') (u : h'.UpToSlots h'') : StepXF env μ μ' h base h'' :=
  ⟨x.pre, fun b o n q e => look_hop (x.keep b o n q e) (x.based b o n q e) s1 s2 u, x.fresh, x.based⟩
noncomputable def PostXF (B : Heap) (X : XE) (env : Env) (μ : List Addr) (s : Shared) (c : Nat) (σ : MH) : Prop :=
  ∀ μ' h' tk e base, HX B μ' σ base c → StepXF env μ μ' s.heap base h' → ExcAt base X.l (clsK B c) e h' → X.E (.ref e) { s with heap := h', toks := tk }
theorem PostXF.step {B : Heap} {X : XE} {env : Env} {μ μ' : List Addr} {s : Shared} {c : Nat} {σ : MH} {h' : Heap} {tk : Nat} (p : PostXF B X env μ s c σ) (st : StepF env μ μ' s.heap h') : PostXF B X env μ' { s with heap := h', toks := tk } c σ :=
  fun μ'' h'' tk' e base r st' x => p μ'' h'' tk' e base r (st.transX st') x
theorem PostXF.toX {B : Heap} {X : XE} {env : Env} {μ : List Addr} {s : Shared} {c : Nat} {σ : MH} (p : PostXF B X env μ s c σ) : PostX B X μ s c σ := fun μ' h' tk e base r st x => p μ' h' tk e base r st.toF x
theorem PostXF.back {M : Model} {A : Around} {B : Heap} {X : XE} {env : Env} {μ : List Addr} {s : Shared} {c : Nat} {σ : MH} (p : PostXF B X env μ s c σ) (hh : Here A X.l env) : PostXF B ⟨X.l, notedBy M A env (cameBackBy M A env X.E)⟩ env μ s c σ := fun μ' h' tk e base r st x => by
  obtain ⟨hfr, e0, outer, hl, he⟩ := hh
  have x : ExcAt base X.l (clsK B c) e h' := x
  have x' := x
  rw [hl] at x'
  refine fly_note (s := { s with heap := h', toks := tk }) (hl ▸ hfr) he x' fun h2 n1 n2 n3 n4 => ?_
  exact came_back (s := { s with heap := h2, toks := tk }) n1 n2 n3 fun h3 m1 m2 m3 m4 => p μ' h3 tk e base r (st.hop x.1 m1 (n4.trans m4)) ⟨m1, x.2.1, hl ▸ m2, .inr m3⟩

noncomputable def FRel (μ : List Addr) : MFlow → Flow → Prop
  | .next, f => f = .next
  | .ret v, f => ∃ v', f = .ret v' ∧ VRel μ v v'

noncomputable def PostS (B : Heap) (X : XE) (env : Env) (sm : List (Str × Nat)) (μ : List Addr) (s : Shared) (Q : Flow → Shared → Prop) : Res (MFlow × Rho) → Prop
  | .ok p σ' => ∀ μ' f h' tk, HRel B μ' σ' h' → StepF env μ μ' s.heap h' → Frm B env μ' h' → Vars env sm p.2 μ' h' → FRel μ' p.1 f → Q f { s with heap := h', toks := tk }
  | .exc c σ' => PostXF B X env μ s c σ'
  | .stuck => False

theorem PostS.step {B : Heap} {X : XE} {env : Env} {sm : List (Str × Nat)} {μ μ' : List Addr} {s : Shared} {Q : Flow → Shared → Prop} {x : Res (MFlow × Rho)} {h' : Heap} {tk : Nat} (p : PostS B X env sm μ s Q x) (st : StepF env μ μ' s.heap h') : PostS B X env sm μ' { s with heap := h', toks := tk } Q x := by
  cases x with
  | ok v σ' => intro μ'' f h'' tk' r st' f1 f2 f3; exact p μ'' f h'' tk' r (st.trans st') f1 f2 f3
  | exc c h => exact PostXF.step p st
  | stuck => exact p

section
variable (n : Nat) (C : Cf) (W : Nat) (prog : Program) (w : World) (B : Heap) (sc : Scope) (sm : List (Str × Nat))
noncomputable def SX (m : MStmt) (st : Stmt) : Prop :=
  ∀ {env ρ σ μ} {s : Shared} {A : Around} {X : XE} {Q : Flow → Shared → Prop}, Cx n B X A env sc sm ρ μ σ s.heap → PostS B X env sm μ s Q (exec C W m ρ σ) → wpAny (model prog w) A (PySem.exec st env) Q X.E s
noncomputable def SXs (m : MStmt) (l : List Stmt) : Prop :=
  ∀ {env ρ σ μ} {s : Shared} {A : Around} {X : XE} {Q : Flow → Shared → Prop}, Cx n B X A env sc sm ρ μ σ s.heap → PostS B X env sm μ s Q (exec C W m ρ σ) → wpAny (model prog w) A (execs l env) Q X.E s
end

section
variable {n : Nat} {C : Cf} {W : Nat} {prog : Program} {w : World} {B : Heap} {sc : Scope} {sm : List (Str × Nat)} {g : GMap} {F : Nat → Option MFun} {mg mb : Str → Option Value}
variable {env : Env} {ρ : Rho} {σ : MH} {μ : List Addr} {s : Shared} {A : Around} {E : Value → Shared → Prop} {X : XE}

theorem Cx.stepF {μ' : List Addr} {σ' : MH} {ρ' : Rho} {h h' : Heap} (c : Cx n B X A env sc sm ρ μ σ h) (st : StepF env μ μ' h h') (r : HRel B μ' σ' h') (f : Frm B env μ' h') (v : Vars env sm ρ' μ' h') : Cx n B X A env sc sm ρ' μ' σ' h' :=
  ⟨c.scope, c.ok, f, v, r, c.frames, fun e he => by
    obtain ⟨h1, L, h2, h3, h4, m, h5⟩ := c.fok e he
    obtain ⟨o, e0⟩ := Ns_alive h5
    refine ⟨h1, L, h2, st.notMem h3 e0, h4, ?_⟩
    by_cases z : L = env.locals
    · subst z; exact f.ns
    · exact ⟨m, Ns_look h5 fun o e => st.keep L o h3 (fun q => by
        rcases q with q | ⟨x, q⟩
        · exact z q
        · exact c.apart _ he L h2 x q) e⟩, c.here, c.apart, fun v hv => by
    obtain ⟨a, oe, vs, q1, q2, q3, q4, q5⟩ := c.hd v hv
    have no : ¬ Own env a := fun q => by
      rcases q with rfl | ⟨x, q⟩
      · obtain ⟨m, o, es, ep, e1, e2, _⟩ := c.frm.ns
        rw [q3] at e1; cases e1; rw [q4] at e2; cases e2
      · obtain ⟨⟨u, o, e1, e2⟩, _⟩ := c.frm.cell x a q
        rw [q3] at e1; cases e1; rw [q4] at e2; cases e2
    refine ⟨a, oe, vs, q1, st.notMem q2 q3, ?_, q4, q5⟩
    have nd : ∀ es ep, oe.data ≠ .dict es ep := fun es ep z => by rw [q4] at z; cases z
    have := st.keep a _ q2 no (look_of q3)
    rw [nrm_of nd] at this
    exact get_of_look this nd⟩

theorem PostS.bindR {γ δ : Type} {V : List Addr → γ → δ → Prop} {Q : Flow → Shared → Prop} {Q' : δ → Shared → Prop} {r : Res γ} {f : γ → MH → Res (MFlow × Rho)} (cx : Cx n B X A env sc sm ρ μ σ s.heap) (p : PostS B X env sm μ s Q (r.bind f))
    (k : ∀ v σ1 μ1 v' h1 tk, Cx n B X A env sc sm ρ μ1 σ1 h1 → Step μ μ1 s.heap h1 → V μ1 v v' → PostS B X env sm μ1 { s with heap := h1, toks := tk } Q (f v σ1) → Q' v' { s with heap := h1, toks := tk }) : Post B X V μ s Q' r := by
  cases r with
  | ok v σ1 => intro μ1 v' h1 tk r1 st hv; exact k v σ1 μ1 v' h1 tk (cx.step st r1) st hv (PostS.step (x := f v σ1) p (st.toF cx.frm.ownMu))
  | exc c h => exact PostXF.toX p
  | stuck => exact p
theorem SE.bindS {m : MExpr} {e : Expr} {Q : Flow → Shared → Prop} {Q' : Value → Shared → Prop} {f : Val → MH → Res (MFlow × Rho)} (h : SE n C prog w B sc sm m e) (cx : Cx n B X A env sc sm ρ μ σ s.heap)
    (p : PostS B X env sm μ s Q (((sem C m).E ρ σ).bind f))
    (k : ∀ v σ1 μ1 v' h1 tk, Cx n B X A env sc sm ρ μ1 σ1 h1 → Step μ μ1 s.heap h1 → VRel μ1 v v' → PostS B X env sm μ1 { s with heap := h1, toks := tk } Q (f v σ1) → Q' v' { s with heap := h1, toks := tk }) : wpAny (model prog w) A (eval e env) Q' X.E s :=
  h cx (p.bindR cx k)
theorem ST.bindS {m : MExpr} {e : Expr} {Q : Flow → Shared → Prop} {Q' : Bool → Shared → Prop} {f : Bool → MH → Res (MFlow × Rho)} (h : ST n C prog w B sc sm m e) (cx : Cx n B X A env sc sm ρ μ σ s.heap)
    (p : PostS B X env sm μ s Q (((sem C m).T ρ σ).bind f))
    (k : ∀ v σ1 μ1 h1 tk, Cx n B X A env sc sm ρ μ1 σ1 h1 → Step μ μ1 s.heap h1 → PostS B X env sm μ1 { s with heap := h1, toks := tk } Q (f v σ1) → Q' v { s with heap := h1, toks := tk }) : wpAny (model prog w) A (isTrue e env (eval e env)) Q' X.E s :=
  h cx (p.bindR cx fun v σ1 μ1 v' h1 tk cx1 st hv q => by rw [← show v = v' from hv]; exact k v σ1 μ1 h1 tk cx1 st q)

/-- where we stand, nothing changed -/
theorem PostS.here {Q : Flow → Shared → Prop} {fl : MFlow} {f : Flow} (cx : Cx n B X A env sc sm ρ μ σ s.heap) (p : PostS B X env sm μ s Q (.ok (fl, ρ) σ)) (hf : FRel μ fl f) : Q f s := p μ f s.heap s.toks cx.rel StepF.refl cx.frm cx.vars hf

noncomputable def SmOk (sm : List (Str × Nat)) : Prop := ∀ x y i, sm.lookup x = some i → sm.lookup y = some i → x = y

theorem own_upd {h h' : Heap} {a : Addr} (q : Own env a) (sb : Heap.SameBut a h h') (al : ∃ o, h'.get? a = some o) : StepF env μ μ h h' :=
  ⟨List.prefix_refl _, fun b o _ nq e => look_keep (fun o' => sameBut_keep sb b o' (fun z => nq (z ▸ q))) e, fun _ x y => absurd x y, fun b o qb e => by
    by_cases z : b = a
    · subst z; exact al
    · exact ⟨o, sameBut_keep sb b o z e⟩⟩

theorem store_sound {x : Str} {i : Nat} {v : Val} {v' : Value} {Q : Unit → Shared → Prop} (inj : SmOk sm) (h : stK sc sm x i = true) (cx : Cx n B X A env sc sm ρ μ σ s.heap) (hv : VRel μ v v')
    (k : ∀ h' tk, HRel B μ σ h' → StepF env μ μ s.heap h' → Frm B env μ h' → Vars env sm (ρ.set i (some v)) μ h' → Q () { s with heap := h', toks := tk }) : wpAny (model prog w) A (storeName env x v') Q E s := by
  unfold stK at h
  simp only [Bool.and_eq_true, Bool.or_eq_true, beq_iff_eq] at h
  obtain ⟨⟨h1, h2⟩, h3⟩ := h
  have slotv : ∀ {u : Val}, (ρ.set i (some v))[i]? = some (some u) → u = v := fun {u} he => by
    have lt : i < (ρ.set i (some v)).length := (List.getElem?_eq_some_iff.mp he).1
    rw [List.getElem?_set_self (by simpa using lt)] at he
    exact (Option.some.inj (Option.some.inj he)).symm
  rcases h1 with hl | hc
  · have kx : env.kindOf x = some .local := by rw [cx.kind]; exact hl
    obtain ⟨m, hn⟩ := cx.frm.ns
    refine wpAny_storeName_local kx hn (fun h' n' sb => ?_) (by rw [cx.frm.kind]; rfl)
    have cellk : ∀ {y : Str} {c : Addr} {o : Obj}, env.cells.lookup y = some c → s.heap.get? c = some o → h'.get? c = some o := fun {y c o} q e => sameBut_keep sb c o (cx.frm.cell y c q).2.1 e
    refine k h' _ (cx.rel.other (P := fun b => b = env.locals) (fun b o nb e => sameBut_keep sb b o nb e) (fun b z => z ▸ cx.frm.locMu) (fun b z => z ▸ cx.frm.locB)) (own_upd (.inl rfl) sb (Ns_alive n')) ?_ ?_
    · refine ⟨cx.frm.kind, cx.frm.glob, cx.frm.bl, ⟨_, n'⟩, cx.frm.locMu, cx.frm.locB, fun y c q => ?_, cx.frm.cinj, cx.frm.has⟩
      obtain ⟨⟨u, iu⟩, c2⟩ := cx.frm.cell y c q
      exact ⟨⟨u, IsCell_at iu fun o e => cellk q e⟩, c2⟩
    · intro y j u hy hj he
      by_cases hxy : y = x
      · subst hxy
        rw [h3] at hj; cases hj
        rw [slotv he]
        exact ⟨v', .inl ⟨kx, _, n', by rw [if_pos rfl]⟩, hv⟩
      · have ne : i ≠ j := fun z => hxy (inj y x i (z ▸ hj) h3)
        rw [List.getElem?_set_ne ne] at he
        obtain ⟨u', b, r⟩ := cx.vars y j u hy hj he
        refine ⟨u', ?_, r⟩
        rcases b with ⟨ky, m', hn', e'⟩ | ⟨ky, c, hc, ic⟩
        · exact .inl ⟨ky, _, n', by rw [if_neg hxy, Ns_uniq hn hn']; exact e'⟩
        · exact .inr ⟨ky, c, hc, IsCell_at ic fun o e => cellk hc e⟩
  · have kx : env.kindOf x = some .cell := by rw [cx.kind]; exact hc
    obtain ⟨c, hcx⟩ := cx.frm.has x (.inl kx)
    obtain ⟨⟨u0, iu0⟩, cl, cm, cb⟩ := cx.frm.cell x c hcx
    refine wpAny_storeName_cell cx.frm.kind kx hcx iu0 fun h' ic sb => ?_
    obtain ⟨m, hn⟩ := cx.frm.ns
    have hn' : h'.Ns env.locals m := Ns_at hn fun o e => sameBut_keep sb _ o (Ne.symm cl) e
    refine k h' s.toks (cx.rel.other (P := fun b => b = c) (fun b o nb e => sameBut_keep sb b o nb e) (fun b z => z ▸ cm) (fun b z => z ▸ cb)) (own_upd (.inr ⟨x, hcx⟩) sb (let ⟨o, e, _⟩ := ic; ⟨o, e⟩)) ?_ ?_
    · refine ⟨cx.frm.kind, cx.frm.glob, cx.frm.bl, ⟨m, hn'⟩, cx.frm.locMu, cx.frm.locB, fun y c' q => ?_, cx.frm.cinj, cx.frm.has⟩
      obtain ⟨⟨u, iu⟩, c2⟩ := cx.frm.cell y c' q
      by_cases z : c' = c
      · subst z; exact ⟨⟨_, ic⟩, c2⟩
      · exact ⟨⟨u, IsCell_at iu fun o e => sameBut_keep sb _ o z e⟩, c2⟩
    · intro y j u hy hj he
      by_cases hxy : y = x
      · subst hxy
        rw [h3] at hj; cases hj
        rw [slotv he]
        exact ⟨v', .inr ⟨.inl kx, c, hcx, ic⟩, hv⟩
      · have ne : i ≠ j := fun z => hxy (inj y x i (z ▸ hj) h3)
        rw [List.getElem?_set_ne ne] at he
        obtain ⟨u', b, r⟩ := cx.vars y j u hy hj he
        refine ⟨u', ?_, r⟩
        rcases b with ⟨ky, m', hn'', e'⟩ | ⟨ky, c', hc', ic'⟩
        · exact .inl ⟨ky, m', Ns_at hn'' fun o e => sameBut_keep sb _ o (Ne.symm cl) e, e'⟩
        · exact .inr ⟨ky, c', hc', IsCell_at ic' fun o e => sameBut_keep sb _ o (fun z => hxy (cx.frm.cinj y x c' hc' (z ▸ hcx))) e⟩

theorem sx_nil : SXs n C W prog w B sc sm .nil [] := fun {env ρ σ μ s A X Q} cx p => by
  have p : PostS B X env sm μ s Q (.ok (.next, ρ) σ) := p
  exact wpAny_execs_nil (p.here cx rfl)
theorem sx_cons {a b : MStmt} {st : Stmt} {r : List Stmt} (ha : SX n C W prog w B sc sm a st) (hb : SXs n C W prog w B sc sm b r) : SXs n C W prog w B sc sm (.cons a b) (st :: r) := fun {env ρ σ μ s A X Q} cx p => by
  have p : PostS B X env sm μ s Q ((exec C W a ρ σ).bind fun p h => match p.1 with | .next => exec C W b p.2 h | .ret v => .ok (.ret v, p.2) h) := p
  refine wpAny_execs_cons (ha cx ?_)
  cases q : exec C W a ρ σ with
  | exc c h => rw [q] at p; exact p
  | stuck => rw [q] at p; exact p
  | ok pr σ1 =>
    obtain ⟨fl, ρ1⟩ := pr
    rw [q] at p
    intro μ1 f h1 tk r1 st1 f1 v1 hf
    cases fl with
    | next =>
      rw [show f = .next from hf]
      exact hb (cx.stepF st1 r1 f1 v1) (PostS.step (x := exec C W b ρ1 σ1) p st1)
    | ret v =>
      obtain ⟨v', rfl, hv⟩ := hf
      exact p μ1 _ h1 tk r1 st1 f1 v1 ⟨v', rfl, hv⟩

theorem sx_if {c : MExpr} {t e : MStmt} {x : Expr} {y z : List Stmt} {pos : Pos} (hc : ST n C prog w B sc sm c x) (ht : SXs n C W prog w B sc sm t y) (he : SXs n C W prog w B sc sm e z) : SX n C W prog w B sc sm (.ifs c t e) (.If x y z pos) := fun {env ρ σ μ s A X Q} cx p =>
  wpAny_If (hc.bindS cx p fun b σ1 μ1 h1 tk cx1 st q => by
    cases b with
    | true => rw [if_pos rfl]; exact ht cx1 q
    | false => rw [if_neg (by simp)]; exact he cx1 q)

theorem sx_ret {e : MExpr} {x : Expr} {pos : Pos} (he : SE n C prog w B sc sm e x) : SX n C W prog w B sc sm (.ret e) (.Return (some x) pos) := fun {env ρ σ μ s A X Q} cx p =>
  wpAny_Return_some (he.bindS cx p fun v σ1 μ1 v' h1 tk cx1 st hv q => PostS.here (s := { s with heap := h1, toks := tk }) cx1 q ⟨v', rfl, hv⟩)
theorem sx_ret0 {pos : Pos} : SX n C W prog w B sc sm (.ret (.const .none)) (.Return none pos) := fun {env ρ σ μ s A X Q} cx p => by
  have p : PostS B X env sm μ s Q (.ok (.ret .none, ρ) σ) := p
  exact wpAny_Return_none (p.here cx ⟨_, rfl, rfl⟩)

theorem interactive_of (cx : Cx n B X A env sc sm ρ μ σ s.heap) : interactive env = false := by
  unfold interactive; rw [cx.frm.kind]; rfl
theorem swaps_none {v : Expr} {line : Nat} (h : isComp v = false) : swapsWith v none line env = pure false := by
  cases v <;> first | rfl | exact (Bool.false_ne_true h.symm).elim
theorem swaps_false {v t : Expr} {line : Nat} (h : isComp v = false) : swapsWith v (some t) line env = pure false := by
  cases v <;> first | rfl | exact (Bool.false_ne_true h.symm).elim
theorem sx_expr {e : MExpr} {x : Expr} {pos : Pos} (h : isComp x = false) (he : SE n C prog w B sc sm e x) : SX n C W prog w B sc sm (.expr e) (.Expr x pos) := fun {env ρ σ μ s A X Q} cx p => by
  rw [exec_Expr env _ _ (interactive_of cx) (swaps_none h)]
  exact wpAny_bind (wpAny_standAt (wpAny_bind (he.bindS cx p fun v σ1 μ1 v' h1 tk cx1 st hv q => wpAny_dropValue (PostS.here (s := { s with heap := h1, toks := tk }) cx1 q rfl))))

theorem sx_assign_plain {i : Nat} {e : MExpr} {x : Str} {v : Expr} {px pos : Pos} (inj : SmOk sm) (hs : stK sc sm x i = true) (he : SE n C prog w B sc sm e v) {env ρ σ μ} {s : Shared} {A : Around} {X : XE} {Q : Flow → Shared → Prop}
    (hw : swapsWith v (some (.Name x px)) pos.line env = pure false) (cx : Cx n B X A env sc sm ρ μ σ s.heap) (p : PostS B X env sm μ s Q (exec C W (.assign i e) ρ σ)) : wpAny (model prog w) A (PySem.exec (.Assign [.Name x px] v pos) env) Q X.E s :=
  wpAny_Assign_Name (he.bindS cx p fun u σ1 μ1 u' h1 tk cx1 st hu q => store_sound inj hs cx1 hu fun h2 tk2 r2 st2 f2 v2 => q μ1 .next h2 tk2 r2 st2 f2 v2 rfl) hw

theorem sx_asub {o i e : MExpr} {eo ei v : Expr} {p1 pos : Pos} (he : SE n C prog w B sc sm e v) (ho : SE n C prog w B sc sm o eo) (hi : SE n C prog w B sc sm i ei) : SX n C W prog w B sc sm (.asub o i e) (.Assign [.Subscript eo ei p1] v pos) := fun {env ρ σ μ s A X Q} cx p => by
  refine wpAny_Assign_Subscript (he.bindS cx p fun u σ1 μ1 u' h1 tk cx1 st1 hu q1 => ho.bindS cx1 q1 fun a σ2 μ2 a' h2 tk2 cx2 st2 ha q2 => hi.bindS cx2 q2 fun b σ3 μ3 b' h3 tk3 cx3 st3 hb q3 => ?_) (by cases v <;> rfl)
  refine asub_sound (s := { s with heap := h3, toks := tk3 }) cx3.rel (ha.mono st3.pre) hb (hu.mono (st2.pre.trans st3.pre)) (q3.bindR cx3 fun _ σ4 μ4 _ h4 tk4 cx4 st4 _ q4 => ?_)
  exact PostS.here (s := { s with heap := h4, toks := tk4 }) cx4 q4 rfl

theorem sx_aattr {o e : MExpr} {k : Nat} {x : Str} {v : Expr} {px p1 pos : Pos} (G : GOk g F B mg mb) (ht : isTab (g.lookup tabNm) = true) (hk : k < 3) (hc : isComp v = false) (he : SE n C prog w B sc sm e v) (ho : SE n C prog w B sc sm o (.Name x px)) :
    SX n C W prog w B sc sm (.aattr o k e) (.Assign [.Attribute (.Name x px) (attrName k) p1] v pos) := fun {env ρ σ μ s A X Q} cx p => by
  obtain ⟨f, hf⟩ := isTab_elim ht
  obtain ⟨N, mN, TC, _, t1, t2, t3, t4, _⟩ := (G.tab f hf).2
  refine plainObj_wpAny_Assign_Attribute (he.bindS cx p fun u σ1 μ1 u' h1 tk cx1 st1 hu q1 => ho.bindS cx1 q1 fun v σ2 μ2 v' h2 tk2 cx2 st2 hv q2 => ?_) (swaps_false hc)
  have q2 : PostS B X env sm μ2 { s with heap := h2, toks := tk2 } Q ((aattrV k v u σ2).bind fun _ h => .ok (.next, ρ) h) := q2
  cases v with
  | ref i =>
    obtain ⟨a, ea, rfl⟩ := hv
    have q3 : PostS B X env sm μ2 { s with heap := h2, toks := tk2 } Q ((match σ2[i]? with | some (.inst fs) => (if k < fs.length ∧ k < 3 then Res.ok () (σ2.set i (.inst (fs.set k (some u)))) else .stuck) | some (.list _) => .stuck | some (.ro _) => .stuck | some (.tup _) => .stuck | some .aux => .stuck | none => .stuck).bind fun _ h => .ok (.next, ρ) h) := q2
    cases hz : σ2[i]? with
    | none => rw [hz] at q3; exact q3.elim
    | some ob =>
      rw [hz] at q3
      cases ob with
      | inst fs =>
        have q4 : PostS B X env sm μ2 { s with heap := h2, toks := tk2 } Q ((if k < fs.length ∧ k < 3 then Res.ok () (σ2.set i (.inst (fs.set k (some u)))) else .stuck).bind fun _ h => .ok (.next, ρ) h) := q3
        by_cases hl : k < fs.length ∧ k < 3
        · rw [if_pos hl] at q4
          obtain ⟨dx, mA, s1, s2, ne, I, idd, i7, i8⟩ := cx2.rel.inst ea hz
          have kb : ∀ b o, B.get? b = some o → h2.get? b = some o := cx2.rel.base
          obtain ⟨nm, q', bs, sn, sub, col, dd, k0, k1, k2, k3, k5, hC⟩ := (TC.keeps kb).obj
          have hu2 := hu.mono st2.pre
          have aC : a ≠ tabK B := fun z => by
            obtain ⟨nm, q', bs, sn, sub, col, dd, k0, k1, k2, k3, k5, hC⟩ := TC.obj
            rw [← z, cx2.rel.new i a _ ea hz rfl] at hC; cases hC
          refine store_attr PySem.F.store_object hC (TC.keeps kb).ns t3 (t4 k hk) (attr_obj k hk) aC I (fun h' tk' I' kk same => ?_) (fun y hy => i8 y hy) (by decide)
          have k2' : ∀ b x, b ≠ a → b ≠ dx → h2.get? b = some x → h'.get? b = some x := fun b x n1 n2 e => kk b x n1 (fun o₀ dx' e1 e2 => by rw [idd o₀ e1] at e2; cases e2; exact n2) e
          obtain ⟨o0, io, ic, inc, _⟩ := id I
          obtain ⟨o1, e1, c1, d1, _, dk⟩ := same o0 io
          have dd1 := dk dx (idd o0 io)
          have inst' : InstR B μ2 h' a dx (fs.set k (some u)) := by
            obtain ⟨o2, e2, c2, nc2, hd2⟩ := I'
            rw [e1] at e2; cases e2
            rcases hd2 with ⟨z, _⟩ | ⟨d', z1, z2, z3⟩
            · rw [dd1] at z; cases z
            · rw [dd1] at z1; cases z1
              refine ⟨o1, _, e1, c2, dd1, nc2, z2, z3, fun j v hj e => ?_, fun y hy => ?_⟩
              · by_cases z : k = j
                · subst z
                  rw [List.getElem?_set_self hl.1] at e
                  cases e
                  exact ⟨u', by rw [if_pos rfl], hu2⟩
                · rw [List.getElem?_set_ne z] at e
                  obtain ⟨w', w1, w2⟩ := i7 j v hj e
                  refine ⟨w', ?_, w2⟩
                  rw [if_neg fun z' => z (attrName_inj hk hj z').symm]; exact w1
              · by_cases z : y = attrName k
                · rw [z]
                  have : k = 0 ∨ k = 1 ∨ k = 2 := by omega
                  rcases this with rfl | rfl | rfl <;> simp
                · rw [if_neg z] at hy; exact i8 y hy
          have r' := cx2.rel.updI ea hz s2 s1 k2' inst'
          have st' : Step μ2 μ2 h2 h' := ⟨List.prefix_refl _, fun b ob n e => look_keep (fun o' => k2' b o' (fun z => n (z ▸ List.mem_of_getElem? ea)) (fun z => n (z ▸ List.mem_of_getElem? s2))) e, fun _ x y => absurd x y⟩
          have cx3 := cx2.step st' r'
          exact q4 μ2 .next h' tk' r' (st'.toF cx2.frm.ownMu) cx3.frm cx3.vars rfl
        · rw [if_neg hl] at q4; exact q4.elim
      | _ => exact q3.elim
  | _ => exact q2.elim

end
end Mine


-- part MiniLoop
set_option maxRecDepth 4000
set_option linter.unusedVariables false
namespace Mine
open PySem

section
variable {n : Nat} {C : Cf} {W : Nat} {prog : Program} {w : World} {B : Heap} {sc : Scope} {sm : List (Str × Nat)} {g : GMap} {F : Nat → Option MFun} {mg mb : Str → Option Value}
variable {env : Env} {ρ : Rho} {σ : MH} {μ : List Addr} {s : Shared} {A : Around} {E : Value → Shared → Prop} {X : XE}

/-- x = [..]: the list is stored before the block's names go -/
theorem sx_assign_lc {j : Nat} {m : MExpr} {res : Rho → MH → Res (List Val)} {e1 tgt iter : Expr} {ifs : List Expr} {y : Str} {py pos cpos : Pos} {inner : Scope} (inj : SmOk sm) (hs : stK sc sm y j = true) (hE : ∀ ρ h, (sem C m).E ρ h = (res ρ h).bind newList) (H : SC n C prog w B sc sm res e1 tgt iter ifs inner) :
    SX n C W prog w B sc sm (.assign j m) (.Assign [.Name y py] (.ListComp e1 [⟨tgt, iter, ifs, 0⟩] inner cpos) pos) := fun {env ρ σ μ s A X Q} cx p => by
  have hb : ∃ b, swapsWith (.ListComp e1 [⟨tgt, iter, ifs, 0⟩] inner cpos) (some (.Name y py)) pos.line env = pure b := ⟨_, rfl⟩
  obtain ⟨b, hb⟩ := hb
  cases b with
  | false => exact sx_assign_plain inj hs (se_lc hE H) hb cx p
  | true =>
    have p : PostS B X env sm μ s Q (((sem C m).E ρ σ).bind fun v h => .ok (.next, ρ.set j (some v)) h) := p
    rw [hE] at p
    rw [arm_exec_Assign]
    refine wpAny_bind (wpAny_standAt (wpAny_bind ?_))
    rw [show swapsWithSole [.Name y py] (.ListComp e1 [⟨tgt, iter, ifs, 0⟩] inner cpos) pos.line env = pure true from hb]
    refine wpAny_pure ?_
    rw [if_pos rfl]
    refine wpAny_bind ?_
    rw [arm_evalThenUse_ListComp]
    refine wpAny_bind (H cx ?_)
    cases q2 : res ρ σ with
    | exc c h => rw [q2] at p; exact PostXF.toX p
    | stuck => rw [q2] at p; exact p
    | ok vs σ' =>
        rw [q2] at p
        simp only [Res.bind_ok] at p
        intro μ' D Cn h' tk ys k m r st d1 d2 d3 d4 d5 d6 d7 d8 d9 d10
        unfold newList at p
        split at p
        · rename_i hl
          have p : PostS B X env sm μ s Q (.ok (.next, ρ.set j (some (.ref σ'.length))) (σ' ++ [.list vs])) := p
          have r' : HRel B (μ' ++ [D]) (σ' ++ [.list vs]) h' := r.alloc (fun b o e => e) d1 d6 ⟨hl, ys, k, d8, d9.mono (List.prefix_append _ _)⟩
          have st' : Step μ (μ' ++ [D]) s.heap h' := by
            refine ⟨st.pre.trans (List.prefix_append _ _), st.keep, fun b hb nm => ?_⟩
            rcases List.mem_append.mp hb with hb | hb
            · exact st.fresh b hb nm
            · rw [List.mem_singleton.mp hb]; exact d4
          have cx' := cx.step st' r'
          have hv : VRel (μ' ++ [D]) (.ref σ'.length) (.ref D) := ⟨D, by rw [← r.len, List.getElem?_append_right (Nat.le_refl _), Nat.sub_self]; rfl, rfl⟩
          show wpAny (model prog w) A (assignAll (.ref D) ((assignEach [.Name y py] env).map (·.2))) _ X.E { s with heap := h', toks := tk }
          show wpAny (model prog w) A (assign (.Name y py) env (.ref D)) _ X.E { s with heap := h', toks := tk }
          refine wpAny_bind (wpAny_standAt (wpAny_bindName (store_sound (s := { s with heap := h', toks := tk }) inj hs cx' hv fun h2 tk2 r2 st2 f2 v2 => ?_)))
          have ownC : ¬ Own env Cn := fun q => by obtain ⟨o, e⟩ := cx.frm.ownAlive Cn q; rw [d5] at e; cases e
          refine ⟨m, Ns_look d10 fun o e => st2.keep Cn o (fun q => by
            rcases List.mem_append.mp q with q | q
            · exact d2 q
            · exact d3 (List.mem_singleton.mp q).symm) ownC e, fun h3 sb => wpAny_pure (wpAny_pure ?_)⟩
          have mC : Cn ∉ μ' ++ [D] := fun q => by
            rcases List.mem_append.mp q with q | q
            · exact d2 q
            · exact d3 (List.mem_singleton.mp q).symm
          have aliveC : ∃ o, h2.get? Cn = some o := by
            obtain ⟨o, e⟩ := Ns_alive d10
            exact st2.alive mC e
          -- the block's names go: no object of ours, none of the frame's
          refine p (μ' ++ [D]) .next h3 tk2 (r2.other (P := fun b => b = Cn) (fun b o nb e => sameBut_keep sb b o nb e) (fun b z => z ▸ mC) (fun b z => z ▸ d7)) ?_ ?_ ?_ rfl
          · have stf := (st'.toF cx.frm.ownMu).trans st2
            exact ⟨stf.pre, fun b o n1 n2 e => look_keep (fun o' => sameBut_keep sb b o' (fun z => by obtain ⟨o2, e2, _⟩ := look_elim e; rw [z, d5] at e2; cases e2)) (stf.keep b o n1 n2 e), stf.fresh, fun b o q e => by
              obtain ⟨o', e'⟩ := stf.own b o q e
              exact ⟨o', sameBut_keep sb b o' (fun z => ownC (z ▸ q)) e'⟩⟩
          · obtain ⟨mm, nn⟩ := f2.ns
            have nl : env.locals ≠ Cn := fun z => ownC (.inl z.symm)
            refine ⟨f2.kind, f2.glob, f2.bl, ⟨mm, Ns_at nn fun o e => sameBut_keep sb _ o nl e⟩, f2.locMu, f2.locB, fun z c q => ?_, f2.cinj, f2.has⟩
            obtain ⟨⟨u, iu⟩, c2⟩ := f2.cell z c q
            exact ⟨⟨u, IsCell_at iu fun o e => sameBut_keep sb _ o (fun t => ownC (.inr ⟨z, t ▸ q⟩)) e⟩, c2⟩
          · intro z jj u hy hj he
            obtain ⟨u', b, rr⟩ := v2 z jj u hy hj he
            exact ⟨u', b.at (fun o e => sameBut_keep sb _ o (fun t => ownC (.inl t.symm)) e) (fun c o q e => sameBut_keep sb _ o (fun t => ownC (.inr ⟨z, t ▸ q⟩)) e), rr⟩
        · exact p.elim

theorem for_loop [Small n] {i : Nat} {b : MStmt} {x : Str} {px : Pos} {body : List Stmt} {xs : List Val} {ck : MH → Bool} {I : Addr} {At : Nat → Heap → Prop} {μ₁ : List Addr} {σ₁ : MH} {h₁ : Heap} {tk₁ : Nat} {Q : Flow → Shared → Prop} {res : Res (MFlow × Rho)}
    (inj : SmOk sm) (hs : stK sc sm x i = true) (cx : Cx n B X A env sc sm ρ μ σ s.heap) (HB : SXs n C W prog w B sc sm b body) (it : Iter prog w B μ₁ xs ck I At) (i1 : I ∉ μ₁) (i2 : B.get? I = none) (i3 : s.heap.get? I = none)
    (r₁ : HRel B μ₁ σ₁ h₁) (st₁ : Step μ μ₁ s.heap h₁) (at₁ : At 0 h₁) (c₁ : ck σ₁ = true) (hres : res = forLoop (forStep (.loc i) (exec C W b)) ck xs ρ σ₁) (P : PostS B X env sm μ s Q res) :
    codeAny (model prog w) A (.forLoop (.Name x px) (.ref I) body [] env) (fun r s' => match r with | .ok f => Q f s' | .error e => cameBackBy (model prog w) A env X.E e s') { s with heap := h₁, toks := tk₁ } := by
  have ownI : ¬ Own env I := fun q => by obtain ⟨o, e⟩ := cx.frm.ownAlive I q; rw [i3] at e; cases e
  have cx₁ := cx.step st₁ r₁
  refine codeAny_forLoop_any (fun k s' => ∃ j μj ρj σj hj tkj, k = xs.length - j ∧ j ≤ xs.length ∧ s' = { s with heap := hj, toks := tkj } ∧ HRel B μj σj hj ∧ StepF env μ μj s.heap hj ∧ μ₁ <+: μj ∧ I ∉ μj ∧ At j hj ∧ Frm B env μj hj ∧ Vars env sm ρj μj hj ∧ ck σj = true ∧
      res = forLoop (forStep (.loc i) (exec C W b)) ck (xs.drop j) ρj σj)
    (fun k s' hI => ?_) xs.length ⟨0, μ₁, ρ, σ₁, h₁, tk₁, by simp, Nat.zero_le _, rfl, r₁, st₁.toF cx.frm.ownMu, List.prefix_refl _, i1, at₁, cx₁.frm, cx₁.vars, c₁, hres⟩
  obtain ⟨j, μj, ρj, σj, hj, tkj, rfl, hj', rfl, rj, stj, pj, frj, atj, fj, vj, cj, hrj⟩ := hI
  -- a change of the iterator alone
  have keepI : ∀ {h' : Heap}, (∀ b o, b ≠ I → hj.get? b = some o → h'.get? b = some o) → HRel B μj σj h' ∧ Frm B env μj h' ∧ Vars env sm ρj μj h' ∧ StepF env μ μj s.heap h' := fun {h'} k1 => by
    refine ⟨rj.other (P := fun b => b = I) (fun b o nb e => k1 b o nb e) (fun b z => z ▸ frj) (fun b z => z ▸ i2), ?_, ?_, ?_⟩
    · obtain ⟨mm, nn⟩ := fj.ns
      refine ⟨fj.kind, fj.glob, fj.bl, ⟨mm, Ns_at nn fun o e => k1 _ o (fun z => ownI (.inl z.symm)) e⟩, fj.locMu, fj.locB, fun z c q => ?_, fj.cinj, fj.has⟩
      obtain ⟨⟨u, iu⟩, c2⟩ := fj.cell z c q
      exact ⟨⟨u, IsCell_at iu fun o e => k1 _ o (fun t => ownI (.inr ⟨z, t ▸ q⟩)) e⟩, c2⟩
    · intro z jj u hy hj he
      obtain ⟨u', b, rr⟩ := vj z jj u hy hj he
      exact ⟨u', b.at (fun o e => k1 _ o (fun t => ownI (.inl t.symm)) e) (fun c o q e => k1 _ o (fun t => ownI (.inr ⟨z, t ▸ q⟩)) e), rr⟩
    · exact ⟨stj.pre, fun b o n1 n2 e => look_keep (fun o' => k1 b o' (fun z => by obtain ⟨o2, e2, _⟩ := look_elim e; rw [z, i3] at e2; cases e2)) (stj.keep b o n1 n2 e), stj.fresh, fun b o q e => by
        obtain ⟨o', e'⟩ := stj.own b o q e
        exact ⟨o', k1 b o' (fun z => ownI (z ▸ q)) e'⟩⟩
  rcases Nat.lt_or_eq_of_le hj' with lt | rfl
  · rw [List.drop_eq_getElem_cons lt, forLoop] at hrj
    refine it.item j xs[j] A _ μj σj _ _ (List.getElem?_eq_getElem lt) pj atj rj cj fun v h1 tk1 hv at1 k1 => ?_
    obtain ⟨r1, fr1, v1, st1⟩ := keepI k1
    show wpAny (model prog w) A (letOwnedTupleGo (.Name x px) (.ref I) v) _ _ { s with heap := h1, toks := tk1 }
    refine wpAny_pure ?_
    show wpAny (model prog w) A (assign (.Name x px) env v) _ _ { s with heap := h1, toks := tk1 }
    have cx1 : Cx n B X A env sc sm ρj μj σj h1 := cx.stepF st1 r1 fr1 v1
    refine wpAny_bind (wpAny_standAt (wpAny_bindName (store_sound (s := { s with heap := h1, toks := tk1 }) inj hs cx1 hv fun h2 tk2 r2 st2 fr2 v2 => ?_)))
    have at2 : At (j + 1) h2 := it.frame _ _ _ at1 fun o e => st2.keep I o frj ownI e
    have st12 := st1.trans st2
    have cx2 : Cx n B X A env sc sm (ρj.set i (some xs[j])) μj σj h2 := cx.stepF st12 r2 fr2 v2
    refine HB (X := ⟨X.l, notedBy (model prog w) A env (cameBackBy (model prog w) A env X.E)⟩) (s := { s with heap := h2, toks := tk2 }) ⟨cx2.scope, cx2.ok, cx2.frm, cx2.vars, cx2.rel, cx2.frames, cx2.fok, cx2.here, cx2.apart, cx2.hd⟩ ?_
    have hrj : res = (exec C W b (ρj.set i (some xs[j])) σj).bind fun p h1 => match p.1 with
      | .next => if ck h1 then forLoop (forStep (.loc i) (exec C W b)) ck (xs.drop (j + 1)) p.2 h1 else .stuck
      | .ret v => .ok (.ret v, p.2) h1 := hrj
    cases f1 : exec C W b (ρj.set i (some xs[j])) σj with
    | stuck => rw [f1] at hrj; rw [hrj] at P; exact P
    | exc c σ' =>
      rw [f1] at hrj; rw [hrj] at P
      exact PostXF.back (PostXF.step P st12) ⟨cx2.frames, cx2.here⟩
    | ok pr σ1 =>
      rw [f1] at hrj
      simp only [Res.bind_ok] at hrj
      intro μ3 f h3 tk3 r3 st3 fr3 v3 hf
      have st13 := st12.trans st3
      obtain ⟨oI, eI⟩ := it.alive _ _ at2
      cases hn : pr.1 with
      | next =>
        rw [hn] at hf hrj
        simp only at hrj
        rw [show f = .next from hf]
        by_cases hc : ck σ1 = true
        · rw [if_pos hc] at hrj
          exact ⟨xs.length - (j + 1), by omega, j + 1, μ3, pr.2, σ1, h3, tk3, rfl, lt, rfl, r3, st13, pj.trans st3.pre, st3.notMem frj eI, it.frame _ _ _ at2 fun o e => st3.keep I o frj ownI e, fr3, v3, hc, hrj⟩
        · rw [if_neg hc] at hrj; rw [hrj] at P; exact P.elim
      | ret v' =>
        rw [hn] at hf hrj
        simp only at hrj
        rw [hrj] at P
        obtain ⟨u, rfl, hu⟩ := hf
        exact P μ3 _ h3 tk3 r3 st13 fr3 v3 ⟨u, rfl, hu⟩
  · rw [List.drop_length, forLoop] at hrj
    rw [hrj] at P
    refine it.done A _ μj σj _ _ (.inl cx.ok.handled) pj atj rj cj fun h1 tk1 k1 => ?_
    obtain ⟨r1, fr1, v1, st1⟩ := keepI k1
    exact wpAny_execs_nil (P μj .next h1 tk1 r1 st1 fr1 v1 rfl)

theorem sx_for [Small n] {i : Nat} {it : MExpr} {b : MStmt} {x : Str} {px pos : Pos} {iter : Expr} {body : List Stmt} (inj : SmOk sm) (hs : stK sc sm x i = true) (HI : SI n C prog w B sc sm it iter) (HB : SXs n C W prog w B sc sm b body) :
    SX n C W prog w B sc sm (.fors (.loc i) it b) (.For (.Name x px) iter body [] pos) := fun {env ρ σ μ s A X Q} cx p => by
  have p : PostS B X env sm μ s Q (((sem C it).I ρ σ).bind fun s h => forLoop (forStep (.loc i) (exec C W b)) s.2 s.1 ρ h) := p
  refine wpAny_For (HI.2 cx ?_) (HI.1 env)
  cases q1 : (sem C it).I ρ σ with
  | exc c h => rw [q1] at p; exact PostXF.toX p
  | stuck => rw [q1] at p; exact p
  | ok src σ₁ =>
    obtain ⟨xs, ck⟩ := src
    rw [q1] at p
    intro μ₁ I At h₁ tk₁ r₁ st₁ i1 i2 i3 itr at₁ c₁ l₁
    exact for_loop inj hs cx HB itr i1 i2 i3 r₁ st₁ at₁ c₁ rfl p

theorem sx_while {c : MExpr} {b : MStmt} {x : Expr} {body : List Stmt} {pos : Pos} (HC : ST n C prog w B sc sm c x) (HB : SXs n C W prog w B sc sm b body) : SX n C W prog w B sc sm (.whiles c b) (.While x body [] pos) := fun {env ρ σ μ s A X Q} cx p => by
  have p : PostS B X env sm μ s Q (whileLoop (sem C c).T (exec C W b) W ρ σ) := p
  refine wpAny_While ?_
  generalize hres : whileLoop (sem C c).T (exec C W b) W ρ σ = res at p
  refine codeAny_whileLoop (fun k s' => ∃ μj ρj σj hj tkj, s' = { s with heap := hj, toks := tkj } ∧ HRel B μj σj hj ∧ StepF env μ μj s.heap hj ∧ Frm B env μj hj ∧ Vars env sm ρj μj hj ∧ res = whileLoop (sem C c).T (exec C W b) k ρj σj)
      (fun k s' hI => ?_) W ⟨μ, ρ, σ, s.heap, s.toks, rfl, cx.rel, StepF.refl, cx.frm, cx.vars, hres.symm⟩
  obtain ⟨μj, ρj, σj, hj, tkj, rfl, rj, stj, fj, vj, hw⟩ := hI
  cases k with
  | zero => rw [hw] at p; exact (show False from p).elim
  | succ k =>
    rw [whileLoop] at hw
    have cxj : Cx n B X A env sc sm ρj μj σj hj := cx.stepF stj rj fj vj
    have cxn : Cx n B ⟨X.l, notedBy (model prog w) A env (cameBackBy (model prog w) A env X.E)⟩ A env sc sm ρj μj σj hj := ⟨cxj.scope, cxj.ok, cxj.frm, cxj.vars, cxj.rel, cxj.frames, cxj.fok, cxj.here, cxj.apart, cxj.hd⟩
    have hh : Here A X.l env := ⟨cx.frames, cx.here⟩
    refine HC (X := ⟨X.l, notedBy (model prog w) A env (cameBackBy (model prog w) A env X.E)⟩) (s := { s with heap := hj, toks := tkj }) cxn ?_
    cases q3 : (sem C c).T ρj σj with
    | exc c h => rw [q3] at hw; rw [hw] at p; exact PostXF.toX (PostXF.back (PostXF.step p stj) hh)
    | stuck => rw [q3] at hw; rw [hw] at p; exact p
    | ok t σ1 =>
      rw [q3] at hw
      simp only [Res.bind_ok] at hw
      intro μ1 t' h1 tk1 r1 st1 ht
      rw [← show t = t' from ht]
      have cx1 := cxn.step st1 r1
      have st01 := stj.trans (st1.toF cxj.frm.ownMu)
      cases t with
      | false =>
        rw [if_neg (by simp)] at hw ⊢
        rw [hw] at p
        exact wpAny_execs_nil (p μ1 .next h1 tk1 r1 st01 cx1.frm cx1.vars rfl)
      | true =>
        rw [if_pos rfl] at hw ⊢
        refine HB (s := { s with heap := h1, toks := tk1 }) cx1 ?_
        cases q4 : exec C W b ρj σ1 with
        | exc c h => rw [q4] at hw; rw [hw] at p; exact PostXF.back (PostXF.step p st01) hh
        | stuck => rw [q4] at hw; rw [hw] at p; exact p
        | ok pr σ2 =>
          rw [q4] at hw
          simp only [Res.bind_ok] at hw
          intro μ2 f h2 tk2 r2 st2 f2 v2 hf
          cases q5 : pr.1 with
          | next =>
            rw [q5] at hw hf
            rw [show f = .next from hf]
            exact ⟨k, Nat.lt_succ_self _, μ2, pr.2, σ2, h2, tk2, rfl, r2, st01.trans st2, f2, v2, hw⟩
          | ret v =>
            rw [q5] at hw hf
            simp only at hw
            rw [hw] at p
            obtain ⟨u, rfl, hu⟩ := hf
            exact p μ2 _ h2 tk2 r2 (st01.trans st2) f2 v2 ⟨u, rfl, hu⟩

end
end Mine


-- part MiniTry
set_option maxRecDepth 4000
set_option linter.unusedVariables false
namespace Mine
open PySem

theorem and_left {a b : Bool} (h : (a && b) = true) : a = true := by cases a; cases h; rfl
theorem and_right {a b : Bool} (h : (a && b) = true) : b = true := by cases a; cases h; exact h
theorem clsName_inj : ∀ {c d : Nat}, c < 9 → d < 9 → clsName c = clsName d → c = d := by
  have : ∀ c : Fin 9, ∀ d : Fin 9, clsName c.1 = clsName d.1 → c = d := by decide +kernel
  intro c d hc hd e
  exact congrArg Fin.val (this ⟨c, hc⟩ ⟨d, hd⟩ e)
theorem ExcCls.named {B : Heap} {c : Nat} (h : ExcCls B c) : c < 9 ∧ ∃ o cd, B.get? (clsK B c) = some o ∧ o.data = .cls cd ∧ cd.name = clsName c := by
  obtain ⟨h1, _, N, q, bs, hdct, sn, sub, ab, col, dd, k0, k1, k2, k3, k5, mN, ho, _⟩ := h
  exact ⟨h1, _, _, ho, rfl, rfl⟩
theorem ExcCls.inj {B : Heap} {c d : Nat} (h : ExcCls B c) (h' : ExcCls B d) (e : clsK B c = clsK B d) : c = d := by
  obtain ⟨h1, o, cd, h2, h3, h4⟩ := h.named
  obtain ⟨h1', o', cd', h2', h3', h4'⟩ := h'.named
  rw [e, h2'] at h2; cases h2
  rw [h3'] at h3; cases h3
  exact clsName_inj h1 h1' (h4.symm.trans h4')
theorem ExcCls.inj0 {B : Heap} {c : Nat} (h : ExcCls B c) (e : clsK B c = clsK B 0) : c = 0 := by
  obtain ⟨h1, o, cd, h2, h3, h4⟩ := h.named
  obtain ⟨_, ⟨c0, dd, sl, cd', m0, h2', h4', _⟩, _⟩ := h
  rw [e, h2'] at h2; cases h2
  cases h3
  exact clsName_inj h1 (by decide) (h4.symm.trans h4')
theorem mro_has {B : Heap} {c k : Nat} (hc : ExcCls B c) (hk : ExcCls B k) : (Value.ref (clsK B c) :: tlK B c).contains (.ref (clsK B k)) = decide (k = c ∨ k = 0) := by
  rw [Bool.eq_iff_iff, List.contains_iff_mem, decide_eq_true_eq, List.mem_cons, tlK, List.mem_append]
  constructor
  · rintro (h | h | h)
    · exact .inl (hk.inj hc (by simpa using h))
    · by_cases z : c = 0
      · rw [if_pos z] at h; cases h
      · rw [if_neg z] at h; exact .inr (hk.inj0 (by simpa using h))
    · simp [bmVE] at h
  · rintro (rfl | rfl)
    · exact .inl rfl
    · by_cases z : c = 0
      · subst z; exact .inl rfl
      · rw [if_neg z]; exact .inr (.inl (.head _))
theorem tlK_has {B : Heap} {c : Nat} {T : String} (h : bmVE.contains (.type T) = true) : (tlK B c).contains (.type T) = true := by
  rw [List.contains_iff_mem] at h ⊢
  exact List.mem_append.mpr (.inr h)

section
variable {M : Model} {A : Around} {E : Value → Shared → Prop} {h B : Heap} {g : Array GenState} {d : Drawn} {t : Nat} {os : OsState} {c k : Nat} {e : Addr} {oe : Obj}

theorem exc_matches {Q : Bool → Shared → Prop} (kk : ∀ b o, B.get? b = some o → h.get? b = some o) (hc : ExcCls B c) (hk : ExcCls B k) (he : h.get? e = some oe) (hcls : oe.cls = .ref (clsK B c))
    (hq : Q (decide (k = c ∨ k = 0)) ⟨h, g, d, t, os⟩) : wpAny M A (excMatches (.ref e) (.ref (clsK B k))) Q E ⟨h, g, d, t, os⟩ := by
  have hm := mro_has hc hk
  obtain ⟨_, _, N, q, bs, hdct, sn, sub, ab, col, dd, k0, k1, k2, k3, k5, mN, hC, _⟩ := hc
  obtain ⟨_, _, N', q', bs', hdct', sn', sub', ab', col', dd', k0', k1', k2', k3', k5', mN', hK, _⟩ := hk
  have hC := kk _ _ hC
  have hK := kk _ _ hK
  have hB : (Value.ref (clsK B k) :: tlK B k).contains (.type "BaseException") = true := by rw [List.contains_cons, tlK_has (by decide), Bool.or_true]
  have f := tc_notTuple
  unfold excMatches
  generalize decide (k = c ∨ k = 0) = b at hm hq
  repeat (first | (with_reducible refine wpAny_loadPart_at he ?_; rw [hcls]) | with_reducible refine wpAny_loadPart_at hK ?_ | (with_reducible refine wpAny_isSubtype_exc hK ?_; rw [hB]) | (with_reducible refine wpAny_isSubtype_exc hC ?_; rw [hm]) | wp_step)
  cases b <;> (wp_walk; exact hq)
end

section
variable {prog : Program} {w : World} {A : Around} {E : Value → Shared → Prop} {s : Shared}

theorem isi_exc {B : Heap} {c : Nat} {e : Addr} {oe : Obj} {Q : Value → Shared → Prop} (kk : ∀ b o, B.get? b = some o → s.heap.get? b = some o) (hc : ExcCls B c) (he : s.heap.get? e = some oe) (hcls : oe.cls = .ref (clsK B c)) (hq : Q (.bool true) s) :
    wpAny (model prog w) A (call (.builtin "isinstance") [.ref e, .type "ValueError"]) Q E s := by
  obtain ⟨_, _, N, q, bs, hdct, sn, sub, ab, col, dd, k0, k1, k2, k3, k5, mN, hC, _⟩ := hc
  have hC := kk _ _ hC
  refine call_isinstance (S := fun _ R s => (s.heap.get? e = some oe ∧ s.heap.get? (clsK B c) = some (excClassObj (clsName c) q (clsK B c) N bs (tlK B c) hdct sn sub ab col dd k0 k1 k2 k3 k5 "ValueError.__new__")) ∧ R (.ok (.ret (.bool true))) s)
    (fun prog w A R s hs => isinstance_outer ?_ (by intro q; cases q)) ⟨⟨he, hC⟩, hq⟩
  obtain ⟨h, gg, dr, tt, os⟩ := s
  obtain ⟨⟨he, hC⟩, hq⟩ := hs
  have hV : (Value.ref (clsK B c) :: tlK B c).contains (.type "ValueError") = true := by rw [List.contains_cons, tlK_has (by decide), Bool.or_true]
  have f : typeOf (.type "ValueError") = pure (.type "type") := by kernel_rfl
  have f2 : (Value.ref (clsK B c) == Value.type "ValueError") = false := rfl
  unfold Builtin.«isinstance.nested»
  repeat (first | (with_reducible refine wpAny_loadPart_at he ?_; rw [hcls]) | (with_reducible refine wpAny_isSubtype_exc hC ?_; rw [hV]) | wp_step)
  all_goals first | exact hq | skip
end

section
variable {n : Nat} {C : Cf} {W : Nat} {prog : Program} {w : World} {B : Heap} {sc : Scope} {sm : List (Str × Nat)} {g : GMap} {F : Nat → Option MFun} {mg mb : Str → Option Value}
variable {env : Env} {ρ : Rho} {σ : MH} {μ : List Addr} {s : Shared} {A : Around} {E : Value → Shared → Prop} {X : XE}

theorem name_glob {x : Str} {i : GI} {pos : Pos} {v : Value} {Q : Value → Shared → Prop} (hg : s.heap.Ns env.globals mg) (hk : env.scope = sc) (hf : env.scope.kind = .function) (h : globK g sc x i = true) (hv : mg x = some v) (hQ : Q v s) : wpAny (model prog w) A (eval (.Name x pos) env) Q E s := by
  obtain ⟨h1, h2, h3⟩ := globK_split h
  exact Calls.Name_function_global hf (by unfold Env.kindOf; rw [hk]; exact h1) (Calls.loadGlobal_global (mg := mg) hg hv hQ) (nameOk_1 h2)
theorem name_built {x : Str} {i : GI} {pos : Pos} {v : Value} {Q : Value → Shared → Prop} (hg : s.heap.Ns env.globals mg) (hb : s.heap.Ns env.builtins mb) (hk : env.scope = sc) (hf : env.scope.kind = .function) (h : globK g sc x i = true) (hv : mg x = none ∧ mb x = some v) (hQ : Q v s) : wpAny (model prog w) A (eval (.Name x pos) env) Q E s := by
  obtain ⟨h1, h2, h3⟩ := globK_split h
  exact Calls.Name_function_global hf (by unfold Env.kindOf; rw [hk]; exact h1) (Calls.loadGlobal_builtin (mg := mg) (mb := mb) hg hv.1 hb hv.2 hQ) (nameOk_1 h2)

/-- raise K('..') -/
theorem sx_raise [Small n] {c : Nat} {x : Str} {t : Str} {k : Nat} {np p1 cpos pos : Pos} (G : GOk g F B mg mb) (h : globK g sc x (.cls c) = true) : SX n C W prog w B sc sm (.raise c) (.Raise (some (.Call (.Name x np) [.Constant (.str t) k p1] [] cpos)) none pos) := fun {env ρ σ μ s A X Q} cx p => by
  have p : PostXF B X env μ s c σ := p
  obtain ⟨hm, hc⟩ := G.cls x c (globK_split h).2.2
  have ⟨_, _, N, q, bs, hdct, sn, sub, ab, col, dd, k0, k1, k2, k3, k5, mN, hC, hN, hi, hT⟩ := hc
  refine wpAny_Raise_call_subT (nm := clsName c) (q := q) (N := N) (bs := bs) (hdct := hdct) (sn := sn) (sub := sub) (ab := ab) (col := col) (dd := dd) (k0 := k0) (k1 := k1) (k2 := k2) (k3 := k3) (k5 := k5) PySem.F.excBase_ValueError (hbase := tlK_has (c := c) (B := B) (by decide)) cx.ok.handled (noStar_back (noStar_one rfl)) (hi _ (.head _)) (glob_some G h cx hm ⟨rfl, args_eq (noStar_one rfl) (one_spliced rfl (wpAny_Constant_str ?_))⟩)
  have kb : ∀ b o, B.get? b = some o → s.heap.get? b = some o := cx.rel.base
  refine ⟨rfl, by show 1 ≤ sizeLine; decide, kb _ _ hC, Ns_at hN fun o e => kb _ _ e, hT.keeps kb, fun h' e hx => ?_⟩
  let P : Addr → Prop := fun b => ∃ f, f ∈ X.l ∧ f.frame = some b
  have hP : ∀ b, P b → b ∉ μ ∧ B.get? b = none ∧ ∃ m, s.heap.Ns b m := fun b ⟨f, hf, hb⟩ => by
    obtain ⟨_, L, h2, h3, h4, h5⟩ := cx.fok f hf
    rw [hb] at h2; cases h2
    exact ⟨h3, h4, h5⟩
  have hx' : Heap.MadeExcOf s.heap h' e (.ref (clsK B c)) _ := hx
  obtain ⟨t', te, tn, tt⟩ := hx'.there
  refine p μ h' _ e (cut P s.heap) ⟨cx.rel.other (P := P) (fun b o nb e => (cut_get nb).trans e) (fun b z => (hP b z).1) (fun b z => (hP b z).2.1), hc⟩ ?_ ⟨fun b o e => hx'.keeps b o (cut_in b o e), cut_less e hx'.new, cx.fok.fun (fun f L hf hL => cut_none ⟨f, hf, hL⟩) hx'.keeps, .inl ⟨_, _, _, te, rfl, rfl, rfl, rfl, rfl⟩⟩
  refine StepX.toF ⟨Step.grow hx'.keeps, fun b o n e nd => ?_⟩
  obtain ⟨o', e', rfl⟩ := look_elim e
  refine ⟨o', (cut_get fun z => ?_).trans e'⟩
  obtain ⟨_, _, m, o2, es, ep, e2, d2, _⟩ := hP b z
  rw [e'] at e2; cases e2
  exact nd es ep (by rw [nrm_data]; exact d2)

/-- statements that bind nothing: what stands in a try -/
noncomputable def SP (n : Nat) (C : Cf) (W : Nat) (prog : Program) (w : World) (B : Heap) (sc : Scope) (sm : List (Str × Nat)) (m : MStmt) (st : Stmt) : Prop :=
  ∀ {env ρ σ μ} {s : Shared} {A : Around} {X : XE} {Q : Flow → Shared → Prop}, Cx n B X A env sc sm ρ μ σ s.heap → Post B X (fun μ p f => p.2 = ρ ∧ FRel μ p.1 f) μ s Q (exec C W m ρ σ) → wpAny (model prog w) A (PySem.exec st env) Q X.E s
noncomputable def SPs (n : Nat) (C : Cf) (W : Nat) (prog : Program) (w : World) (B : Heap) (sc : Scope) (sm : List (Str × Nat)) (m : MStmt) (l : List Stmt) : Prop :=
  ∀ {env ρ σ μ} {s : Shared} {A : Around} {X : XE} {Q : Flow → Shared → Prop}, Cx n B X A env sc sm ρ μ σ s.heap → Post B X (fun μ p f => p.2 = ρ ∧ FRel μ p.1 f) μ s Q (exec C W m ρ σ) → wpAny (model prog w) A (execs l env) Q X.E s

theorem sp_nil : SPs n C W prog w B sc sm .nil [] := fun {env ρ σ μ s A X Q} cx p => wpAny_execs_nil (Post.here' (σ := σ) (v := (MFlow.next, ρ)) cx.rel p ⟨rfl, rfl⟩)
theorem sp_cons {a b : MStmt} {st : Stmt} {r : List Stmt} (ha : SP n C W prog w B sc sm a st) (hb : SPs n C W prog w B sc sm b r) : SPs n C W prog w B sc sm (.cons a b) (st :: r) := fun {env ρ σ μ s A X Q} cx p => by
  refine wpAny_execs_cons (ha cx (Post.bindR (f := fun p h => match p.1 with | .next => exec C W b p.2 h | .ret v => .ok (.ret v, p.2) h) p fun v σ1 μ1 f h1 tk r1 st1 hv q => ?_))
  obtain ⟨fl, ρ1⟩ := v
  obtain ⟨hr, hf⟩ := hv
  have hr : ρ1 = ρ := hr
  subst hr
  cases fl with
  | next => rw [show f = .next from hf]; exact hb (cx.step st1 r1) q
  | ret v =>
    obtain ⟨v', rfl, hv⟩ := hf
    exact Post.here' (s := { s with heap := h1, toks := tk }) (v := (MFlow.ret v, ρ1)) r1 q ⟨rfl, v', rfl, hv⟩
theorem sp_ret {e : MExpr} {x : Expr} {pos : Pos} (he : SE n C prog w B sc sm e x) : SP n C W prog w B sc sm (.ret e) (.Return (some x) pos) := fun {env ρ σ μ s A X Q} cx p =>
  wpAny_Return_some (he.bind cx p fun v σ1 μ1 v' h1 tk cx1 st hv q => Post.here' (s := { s with heap := h1, toks := tk }) (v := (MFlow.ret v, ρ)) cx1.rel q ⟨rfl, v', rfl, hv⟩)
theorem sp_expr {e : MExpr} {x : Expr} {pos : Pos} (h : isComp x = false) (he : SE n C prog w B sc sm e x) : SP n C W prog w B sc sm (.expr e) (.Expr x pos) := fun {env ρ σ μ s A X Q} cx p => by
  rw [exec_Expr env _ _ (interactive_of cx) (swaps_none h)]
  exact wpAny_bind (wpAny_standAt (wpAny_bind (he.bind cx p fun v σ1 μ1 v' h1 tk cx1 st hv q => wpAny_dropValue (Post.here' (s := { s with heap := h1, toks := tk }) (v := (MFlow.next, ρ)) cx1.rel q ⟨rfl, rfl⟩))))
theorem sp_if {c : MExpr} {t e : MStmt} {x : Expr} {y z : List Stmt} {pos : Pos} (hc : ST n C prog w B sc sm c x) (ht : SPs n C W prog w B sc sm t y) (he : SPs n C W prog w B sc sm e z) : SP n C W prog w B sc sm (.ifs c t e) (.If x y z pos) := fun {env ρ σ μ s A X Q} cx p =>
  wpAny_If (hc.bind cx p fun b σ1 μ1 h1 tk cx1 st q => by
    cases b with
    | true => rw [if_pos rfl]; exact ht cx1 q
    | false => rw [if_neg (by simp)]; exact he cx1 q)

theorem allP [Small n] (G : GOk g F B mg mb) (cs : CS n C prog w g F B) : ∀ m, noAsg m = true → (∀ st, (chkS g sc sm m).S st = true → SP n C W prog w B sc sm m st) ∧ (∀ l, (chkS g sc sm m).Ss l = true → SPs n C W prog w B sc sm m l) := by
  have AE := allE (n := n) (C := C) (prog := prog) (w := w) G cs
  intro m
  induction m with
  | nil =>
    refine fun _ => ⟨fun st q => (Bool.false_ne_true q).elim, fun l q => ?_⟩
    have : l = [] := List.isEmpty_iff.mp q
    subst this; exact @sp_nil _ _ _ _ _ _ _ _
  | cons a b ia ib =>
    intro na
    rw [noAsg, Bool.and_eq_true] at na
    refine ⟨fun st q => (Bool.false_ne_true q).elim, fun l q => ?_⟩
    cases l with
    | nil => exact (Bool.false_ne_true q).elim
    | cons st r =>
      have q : ((chkS g sc sm a).S st && (chkS g sc sm b).Ss r) = true := q
      rw [Bool.and_eq_true] at q
      intro _ _ _ _ _ _ _ _ cx p; exact sp_cons ((ia na.1).1 _ q.1) ((ib na.2).2 _ q.2) cx p
  | expr e =>
    refine fun _ => ⟨fun st q => ?_, fun l q => (Bool.false_ne_true q).elim⟩
    have o := sview_ok st
    have q : (match sview st with | .expr v => (chk g e sc sm).E v && !isComp v | _ => false) = true := q
    generalize sview st = vw at o q
    cases o with
    | expr v pos =>
      have q : ((chk g e sc sm).E v && !isComp v) = true := q
      simp only [Bool.and_eq_true, Bool.not_eq_true'] at q
      intro _ _ _ _ _ _ _ _ cx p; exact sp_expr q.2 ((AE e sc sm).1 _ q.1).1 cx p
    | _ => exact (Bool.false_ne_true q).elim
  | ret e =>
    refine fun _ => ⟨fun st q => ?_, fun l q => (Bool.false_ne_true q).elim⟩
    have o := sview_ok st
    have q : (match sview st with | .ret (some v) => (chk g e sc sm).E v | .ret none => isNC e | _ => false) = true := q
    generalize sview st = vw at o q
    cases o with
    | ret v pos =>
      cases v with
      | some v => intro _ _ _ _ _ _ _ _ cx p; exact sp_ret ((AE e sc sm).1 _ q).1 cx p
      | none =>
        rw [isNC_eq q]
        intro env ρ σ μ s A X Q cx p
        exact wpAny_Return_none (Post.here' (σ := σ) (v := (MFlow.ret .none, ρ)) cx.rel p ⟨rfl, _, rfl, rfl⟩)
    | _ => exact (Bool.false_ne_true q).elim
  | ifs c t e it ie =>
    intro na
    rw [noAsg, Bool.and_eq_true] at na
    refine ⟨fun st q => ?_, fun l q => (Bool.false_ne_true q).elim⟩
    have o := sview_ok st
    have q : (match sview st with | .ifs x y z => (chk g c sc sm).E x && (chkS g sc sm t).Ss y && (chkS g sc sm e).Ss z | _ => false) = true := q
    generalize sview st = vw at o q
    cases o with
    | ifs x y z pos =>
      have q : ((chk g c sc sm).E x && (chkS g sc sm t).Ss y && (chkS g sc sm e).Ss z) = true := q
      simp only [Bool.and_eq_true] at q
      intro _ _ _ _ _ _ _ _ cx p; exact sp_if ((AE c sc sm).1 _ q.1.1).2.1 ((it na.1).2 _ q.1.2) ((ie na.2).2 _ q.2) cx p
    | _ => exact (Bool.false_ne_true q).elim
  | _ => exact fun na => (Bool.false_ne_true na).elim

end
end Mine


-- part MiniTry2
set_option maxRecDepth 4000
set_option linter.unusedVariables false
namespace Mine
open PySem

section
variable {n : Nat} {C : Cf} {W : Nat} {prog : Program} {w : World} {B : Heap} {sc : Scope} {sm : List (Str × Nat)} {g : GMap} {F : Nat → Option MFun} {mg mb : Str → Option Value}
variable {env : Env} {ρ : Rho} {σ : MH} {μ : List Addr} {s : Shared} {A : Around} {E : Value → Shared → Prop} {X : XE}

theorem const_val {v : Val} {c : Const} {k : Nat} {pos : Pos} {Q : Value → Shared → Prop} (h : constIs v c = true) (hQ : ∀ u tk, VRel [] v u → Q u { s with toks := tk }) : wpAny (model prog w) A (eval (.Constant c k pos) env) Q E s := by
  cases v with
  | none =>
    cases c with
    | none => exact wpAny_Constant_none (hQ _ s.toks rfl)
    | _ => exact (Bool.false_ne_true h).elim
  | bool a =>
    cases c with
    | bool b =>
      have h : (a == b) = true := h
      rw [beq_iff_eq] at h; subst h; exact wpAny_Constant_bool (hQ _ s.toks rfl)
    | _ => exact (Bool.false_ne_true h).elim
  | int a =>
    cases c with
    | int b =>
      have h : (a == b) = true := h
      rw [beq_iff_eq] at h; subst h; exact wpAny_Constant_int (hQ _ _ ⟨_, rfl⟩)
    | _ => exact (Bool.false_ne_true h).elim
  | str a =>
    cases c with
    | str b =>
      have h : (decide (b = ⟨a.toArray⟩) && decide (a.length ≤ lim)) = true := h
      simp only [Bool.and_eq_true, decide_eq_true_eq] at h
      obtain ⟨rfl, hl⟩ := h
      exact wpAny_Constant_str (hQ _ _ ⟨hl, _, rfl⟩)
    | _ => exact (Bool.false_ne_true h).elim
  | ref a => exact (Bool.false_ne_true h).elim

/-- what a handler finds -/
structure AtH (B : Heap) (l : List Env) (μ μ' : List Addr) (σ' : MH) (s : Shared) (c : Nat) (e : Addr) (base h' : Heap) : Prop where
  r : HX B μ' σ' base c
  st : StepX μ μ' s.heap base h'
  b1 : base.StaysIn h'
  b2 : base.get? e = none
  b3 : h'.FunFrames base l
  b4 : Trc h' base e (.ref (clsK B c))
theorem AtH.land {l : List Env} {μ' : List Addr} {σ' : MH} {c : Nat} {e : Addr} {base h' : Heap} {tk : Nat} {Q : Unit → Shared → Prop} (a : AtH B l μ μ' σ' s c e base h') (k : ∀ h2, AtH B l μ μ' σ' s c e base h2 → Q () { s with heap := h2, toks := tk }) :
    wpAny (model prog w) A (setFlight (.ref e) none) Q E { s with heap := h', toks := tk } := by
  exact fly_set (s := { s with heap := h', toks := tk }) a.b1 a.b3 a.b4 fun h2 n1 n2 n3 n4 => k h2 ⟨a.r, a.st.hop a.b1 n1 n4, n1, a.b2, n2, n3⟩
theorem AtH.cls {l : List Env} {μ' : List Addr} {σ' : MH} {c : Nat} {e : Addr} {base h' : Heap} (a : AtH B l μ μ' σ' s c e base h') : ∃ oe vs, h'.get? e = some oe ∧ oe.cls = .ref (clsK B c) ∧ oe.data = .fields vs := by
  obtain ⟨⟨a0, fl, oe, vs, _, _, _, h1, h2, h3, _⟩, _⟩ := a.b4
  exact ⟨oe, vs, h1, h2.1, h3⟩
theorem AtH.old {l : List Env} {μ' : List Addr} {σ' : MH} {c : Nat} {e : Addr} {base h' : Heap} (a : AtH B l μ μ' σ' s c e base h') : ∀ b o, B.get? b = some o → h'.get? b = some o := fun b o q => a.b1 b o (a.r.1.base b o q)

/-- except K: return .. -/
theorem suite_const {l : List Env} {μ' : List Addr} {σ' : MH} {c : Nat} {e : Addr} {base h' : Heap} {tk : Nat} {v : Val} {k : Const} {kn : Nat} {p1 p2 pos : Pos} {Q : Flow → Shared → Prop} {R : Result → Shared → Prop}
    (cx : Cx n B X A env sc sm ρ μ σ s.heap) (a : AtH B l μ μ' σ' s c e base h') (h : constIs v k = true) (p : PostS B X env sm μ s Q (.ok (.ret v, ρ) σ')) (hR : ∀ f s', Q f s' → R (.ok f) s') (A' : Around) :
    codeAny (model prog w) A' (.handlers (.ref e) [.ExceptHandler none none [.Return (some (.Constant k kn p1)) p2] pos] env) R { s with heap := h', toks := tk } := by
  refine codeAny_handlers_suite (a.land fun h2 a2 => wpAny_execs_cons (wpAny_Return_some (const_val h fun u tk' hu => hR _ _ ?_)))
  exact p μ' (.ret u) h2 tk' (a2.r.1.grow a2.b1) (a2.st.step.toF cx.frm.ownMu) (cx.frm.step a2.st.step) (cx.vars.step cx.frm a2.st.step) ⟨u, rfl, hu.mono List.nil_prefix⟩

/-- except K as y: return isinstance(y, ValueError) -/
theorem suite_as {l : List Env} {μ' : List Addr} {σ' : MH} {c : Nat} {e : Addr} {base h' : Heap} {tk : Nat} {y : Str} {ex : Expr} {p2 pos : Pos} {Q : Flow → Shared → Prop} {R : Result → Shared → Prop}
    (G : GOk g F B mg mb) (cx : Cx n B X A env sc sm ρ μ σ s.heap) (a : AtH B l μ μ' σ' s c e base h') (h : asOk g sc sm y ex = true) (p : PostS B X env sm μ s Q (.ok (.ret (.bool true), ρ) σ'))
    (hR : ∀ f s', wpAny (model prog w) A (do bindName env y .none; unbindBehindTheSuite env y pos) (fun _ s₃ => Q f s₃) X.E s' → R (.ok f) s') (A' : Around) :
    codeAny (model prog w) A' (.handlers (.ref e) [.ExceptHandler none (some y) [.Return (some ex) p2] pos] env) R { s with heap := h', toks := tk } := by
  unfold asOk at h
  simp only [Bool.and_eq_true, beq_iff_eq, Option.isNone_iff_eq_none] at h
  obtain ⟨h0, ⟨h1, hy⟩, h3⟩ := h
  obtain ⟨f, pf, es, q, rfl, h01⟩ := onCall_elim h0
  rw [Bool.and_eq_true] at h01
  obtain ⟨h4, h5⟩ := h01
  obtain ⟨a1, a2, rfl, h51⟩ := two_elim h5
  rw [Bool.and_eq_true] at h51
  obtain ⟨z1, pz1, rfl, h6⟩ := onName_elim h51.1
  obtain ⟨z2, pz2, rfl, h7⟩ := onName_elim h51.2
  have h6 := of_decide_eq_true h6
  subst h6
  have ky : env.kindOf z1 = some .local := by rw [cx.kind]; exact h1
  have hp : (env.scope.kind == .class || (env.scope.kind == .module && env.locals != env.globals)) = false := by rw [cx.frm.kind]; rfl
  refine codeAny_handlers_suite_as (a.land fun h2 a2 => ?_)
  have frm2 := cx.frm.step a2.st.step
  have vars2 := cx.vars.step cx.frm a2.st.step
  obtain ⟨m, hn⟩ := frm2.ns
  refine wpAny_storeName_local (s := { s with heap := h2, toks := tk }) ky hn (fun h3' n3 sb3 => ?_) hp
  have k3 : ∀ b o, b ≠ env.locals → h2.get? b = some o → h3'.get? b = some o := sameBut_keep sb3
  have kB : ∀ b o, B.get? b = some o → h3'.get? b = some o := fun b o q => k3 b o (fun z => by rw [z, frm2.locB] at q; cases q) (a2.old b o q)
  obtain ⟨oe, vs, e1, e2, e3⟩ := a2.cls
  have e1' : h3'.get? e = some oe := k3 e oe (fun z => by
    obtain ⟨o, es, ep, eo, d, _⟩ := hn
    rw [z, eo] at e1; cases e1; rw [d] at e3; cases e3) e1
  have ng : h3'.Ns env.globals mg := by rw [frm2.glob]; exact Ns_at G.ng fun o e => kB _ o e
  have nb : h3'.Ns env.builtins mb := by rw [frm2.bl]; exact Ns_at G.nb fun o e => kB _ o e
  refine wpAny_execs_cons (wpAny_Return_some (wpAny_Call_Name_kw (name_built ng nb cx.scope cx.frm.kind h4 (G.bi _ _ (globK_split h4).2.2) ?_)))
  refine Calls.callWith_builtin (noStar_back (noStar_two rfl rfl)) (args_eq (noStar_two rfl rfl) (two_spliced rfl rfl (wpAny_Name (wpAny_loadName_local cx.frm.kind ky n3 (by rw [if_pos rfl]) ?_) (nameOk_1 hy))))
  refine name_built ng nb cx.scope cx.frm.kind h7 (G.ty _ _ (globK_split h7).2.2) (isi_exc (B := B) (c := c) kB a.r.2 e1' e2 (hR _ _ ?_))
  refine wpAny_nameGoes_keeps (s := { s with heap := h3', toks := _ }) ky n3 hp fun h4' v4 n4 sb4 => ?_
  have k4 : ∀ b o, ¬ b = env.locals → h2.get? b = some o → h4'.get? b = some o := fun b o nb e => sameBut_keep sb4 b o nb (k3 b o nb e)
  refine p μ' _ h4' _ ((a2.r.1.grow a2.b1).other (P := fun b => b = env.locals) k4 (fun b z => z ▸ frm2.locMu) (fun b z => z ▸ frm2.locB)) ?_ ?_ ?_ ⟨_, rfl, rfl⟩
  · have t := a2.st.step.toF cx.frm.ownMu
    exact ⟨t.pre, fun b o n1 n2 q => look_keep (fun o' => k4 b o' fun z => n2 (.inl z)) (t.keep b o n1 n2 q), t.fresh, fun b o q eo => by
      by_cases z : b = env.locals
      · subst z; exact Ns_alive n4
      · obtain ⟨o', e'⟩ := t.own b o q eo
        exact ⟨o', k4 b o' z e'⟩⟩
  · refine ⟨frm2.kind, frm2.glob, frm2.bl, ⟨_, n4⟩, frm2.locMu, frm2.locB, fun x c q => ?_, frm2.cinj, frm2.has⟩
    obtain ⟨⟨v, ic⟩, ne, nm, nb⟩ := frm2.cell x c q
    exact ⟨⟨v, IsCell_at ic fun o => k4 c o ne⟩, ne, nm, nb⟩
  · intro x i v hk hl hr
    obtain ⟨u, b, rr⟩ := vars2 x i v hk hl hr
    refine ⟨u, ?_, rr⟩
    have nx : x ≠ z1 := fun z => by rw [z, h3] at hl; cases hl
    rcases b with ⟨k, m', n', e'⟩ | ⟨k, c', l', ic⟩
    · refine .inl ⟨k, _, n4, ?_⟩
      simp only [if_neg nx]
      rw [Ns_uniq hn n']; exact e'
    · exact .inr ⟨k, c', l', IsCell_at ic fun o => k4 c' o (frm2.cell x c' l').2.1⟩

theorem handle_sound (G : GOk g F B mg mb) (cx : Cx n B X A env sc sm ρ μ σ s.heap) {l : List Env} {μ' : List Addr} {σ' : MH} {c : Nat} {e : Addr} {base h' : Heap} {tk : Nat} {v : Val} {Q : Flow → Shared → Prop} (a : AtH B l μ μ' σ' s c e base h') (p : PostS B X env sm μ s Q (.ok (.ret v, ρ) σ')) :
    ∀ (hs : List (Nat × Bool × Val)) (hl : List ExceptHandler), chkH g sc sm hs hl = true → caught c hs = some v → wpAny (model prog w) A (handleBy (.ref e) env hl) Q X.E { s with heap := h', toks := tk }
  | [], _, _, q => by cases q
  | k :: r, [], h, _ => (Bool.false_ne_true h).elim
  | k :: r, .ExceptHandler none nm body pos :: r', h, _ => (Bool.false_ne_true (and_left (a := false) (b := chkH g sc sm r r') h)).elim
  | k :: r, .ExceptHandler (some t) nm body pos :: r', h, q => by
    have h1 := and_left h
    have h2 := and_right h
    obtain ⟨x, px, rfl, h3⟩ := onName_elim (and_left h1)
    obtain ⟨st, rfl, h4⟩ := one_elim (and_right h1)
    have o := sview_ok st
    unfold onRet at h4
    generalize sview st = vw at o h4
    obtain ⟨hm, hk⟩ := G.cls x k.1 (globK_split h3).2.2
    obtain ⟨oe, vs, e1, e2, _⟩ := a.cls
    have ng : h'.Ns env.globals mg := by rw [cx.frm.glob]; exact Ns_at G.ng fun o e => a.old _ o e
    refine wpAny_handleBy_cons (codeAny_handlers_test (name_glob (s := { s with heap := h', toks := tk }) ng cx.scope cx.frm.kind h3 hm (exc_matches a.old a.r.2 hk e1 e2 ?_))) (by intro z; cases z)
    rw [caught] at q
    by_cases hit : k.1 = c ∨ k.1 = 0
    · rw [if_pos hit] at q
      cases q
      rw [decide_eq_true hit]
      cases o with
      | ret ev p2 =>
        cases ev with
        | none => exact (Bool.false_ne_true h4).elim
        | some ev =>
          cases nm with
          | none =>
            obtain ⟨k', kn, p1, rfl, h5⟩ := onConst_elim (and_right h4)
            exact suite_const cx a h5 p (fun f s' z => z) _
          | some y =>
            have h5 : ((k.2.1 && asOk g sc sm y ev) && decide (k.2.2 = .bool true)) = true := h4
            rw [of_decide_eq_true (and_right h5)] at p
            exact suite_as G cx a (and_right (and_left h5)) p (fun f s' z => z) _
      | _ => exact (Bool.false_ne_true h4).elim
    · rw [if_neg hit] at q
      rw [decide_eq_false hit]
      exact handle_sound G cx a p r r' h2 q

theorem sx_try {b : MStmt} {hs : List (Nat × Bool × Val)} {y : List Stmt} {hl : List ExceptHandler} {pos : Pos} (G : GOk g F B mg mb) (hb : SPs n C W prog w B sc sm b y) (hne : (!hs.isEmpty) = true) (hh : chkH g sc sm hs hl = true) :
    SX n C W prog w B sc sm (.tryx b hs) (.Try y hl [] [] pos) := fun {env ρ σ μ s A X Q} cx p => by
  have p : PostS B X env sm μ s Q (tryV hs ρ (exec C W b ρ σ)) := p
  cases hl with
  | nil =>
    cases hs with
    | nil => cases hne
    | cons => exact (Bool.false_ne_true hh).elim
  | cons h₀ hl =>
    refine wpAny_Try_except (hb (X := ⟨X.l, _⟩) ⟨cx.scope, cx.ok, cx.frm, cx.vars, cx.rel, cx.frames, cx.fok, cx.here, cx.apart, cx.hd⟩ ?_)
    cases q : exec C W b ρ σ with
    | stuck => rw [q] at p; exact p
    | ok pr σ' =>
      rw [q] at p
      intro μ' f h' tk r st hv
      obtain ⟨fl, ρ'⟩ := pr
      obtain ⟨hr, hf⟩ := hv
      have hr : ρ' = ρ := hr
      subst hr
      have q := p μ' f h' tk r (st.toF cx.frm.ownMu) (cx.frm.step st) (cx.vars.step cx.frm st) hf
      cases f with
      | next => exact wpAny_execs_nil q
      | _ => exact q
    | exc c σ' =>
      rw [q] at p
      have p : PostS B X env sm μ s Q (match caught c hs with | some v => .ok (.ret v, ρ) σ' | none => .stuck) := p
      cases q2 : caught c hs with
      | none => rw [q2] at p; exact p.elim
      | some v =>
        rw [q2] at p
        obtain ⟨e0, outer, hX, he⟩ := cx.here
        have hfr := cx.frames
        intro μ' h' tk e base r st x
        have x : ExcAt base X.l (clsK B c) e h' := x
        have x' := x
        rw [hX] at x' hfr
        refine fly_note (s := { s with heap := h', toks := tk }) hfr he x' fun h2 n1 n2 n3 n4 => ?_
        have a2 : AtH B X.l μ μ' σ' s c e base h2 := ⟨r, st.hop x.1 n1 n4, n1, x.2.1, hX ▸ n2, n3⟩
        exact a2.land fun h3 a3 => handle_sound G cx a3 p hs (h₀ :: hl) hh q2

end
end Mine


-- part MiniArgs
set_option maxRecDepth 4000
set_option linter.unusedVariables false
set_option linter.unusedSimpArgs false
namespace Mine
open PySem

theorem lookup_zip_some : ∀ (ns : List Str) (ws : List Value) (x : Str), x ∈ ns → ns.length = ws.length → ((ns.zip ws).lookup x).isSome = true
  | [], _, _, h, _ => by cases h
  | n :: ns, [], _, _, h => by simp at h
  | n :: ns, w :: ws, x, h, l => by
    rw [List.zip_cons_cons, List.lookup_cons]
    split
    · rfl
    · rename_i hx
      rcases List.mem_cons.mp h with rfl | h
      · simp at hx
      · exact lookup_zip_some ns ws x h (by simpa using l)
theorem filterMap_zip : ∀ (ns : List Str) (ws : List Value) (pre : List (Str × Value)), ns.Nodup → (∀ x ∈ ns, pre.lookup x = none) → ns.length = ws.length → (ns.filterMap fun n => ((pre ++ ns.zip ws).lookup n).map (n, ·)) = ns.zip ws
  | [], _, _, _, _, _ => rfl
  | n :: ns, [], _, _, _, h => by simp at h
  | n :: ns, w :: ws, pre, nd, hp, l => by
    rw [List.zip_cons_cons, List.filterMap_cons]
    have e : (pre ++ (n, w) :: ns.zip ws).lookup n = some w := by
      rw [List.lookup_append, hp n (.head _)]; simp
    rw [e]
    simp only [Option.map_some]
    congr 1
    have := filterMap_zip ns ws (pre ++ [(n, w)]) (List.nodup_cons.mp nd).2 (fun x hx => by
      rw [List.lookup_append, hp x (.tail _ hx)]
      have : (x == n) = false := by
        rw [beq_eq_false_iff_ne]; intro q; subst q; exact (List.nodup_cons.mp nd).1 hx
      simp [List.lookup_cons, this]) (by simpa using l)
    rw [List.append_assoc] at this
    exact this
theorem pureBind {α β : Type} (a : α) (f : α → Sem β) : ((pure a : Sem α) >>= f) = f a := rfl
theorem seqNone : seqItems? .none = pure none := rfl
theorem bindArgs_plain {fd : FuncData} {ws : List Value} {names : List Str} (h1 : fd.params.posonlyargs = []) (h2 : fd.params.kwonlyargs = []) (h3 : fd.params.vararg = none) (h4 : fd.params.kwarg = none) (h5 : fd.defaults = .none)
    (hn : fd.params.args.map (·.arg) = names) (nd : names.Nodup) (hl : ws.length = names.length) : bindArgs fd ⟨ws, []⟩ = pure (names.zip ws) := by
  have hm : (names.filter fun n => ((names.zip ws).lookup n).isNone) = [] := by
    rw [List.filter_eq_nil_iff]; intro x hx
    have := lookup_zip_some names ws x hx hl.symm
    simp only [Option.isNone_iff_eq_none]
    intro q; rw [q] at this; cases this
  have hf := filterMap_zip names ws [] nd (fun _ _ => rfl) hl.symm
  unfold bindArgs
  simp only [h1, h2, h3, h4, h5, hn, List.map_nil, List.nil_append, List.append_nil, hl]
  simp only [List.forIn_nil, pureBind, seqNone, Option.getD_none, List.length_nil, Nat.sub_zero, Nat.zero_sub, List.drop_nil, List.drop_zero, gt_iff_lt, Nat.lt_irrefl, decide_false, Bool.false_and, Bool.false_eq_true, if_false, List.take_length, List.drop_length, List.zip_nil_right, List.zip_nil_left, hm, List.isEmpty_nil, Bool.not_true]
  exact congrArg pure hf

theorem cellsFrom_has {x : Str} : ∀ (names : List (Str × NameKind)) (n : Nat) (acc : List (Str × Addr)), ((x, .cell) ∈ names ∨ ∃ c, acc.lookup x = some c) → ∃ c, (cellsFrom n names acc).lookup x = some c
  | [], _, _, h => h.elim (fun e => by cases e) id
  | (y, k) :: r, n, acc, h => by
    unfold cellsFrom
    by_cases hk : (k == .cell) = true
    · rw [if_pos hk]
      refine cellsFrom_has r (n + 1) ((y, n) :: acc) ?_
      by_cases hy : (x == y) = true
      · exact .inr ⟨n, by rw [List.lookup_cons, hy]⟩
      · have hy' : (x == y) = false := by simpa using hy
        rcases h with h | ⟨c, h⟩
        · rcases List.mem_cons.mp h with q | q
          · cases q; simp at hy
          · exact .inl q
        · exact .inr ⟨c, by rw [List.lookup_cons, hy']; exact h⟩
    · rw [if_neg hk]
      refine cellsFrom_has r n acc ?_
      rcases h with h | h
      · rcases List.mem_cons.mp h with q | q
        · cases q; simp at hk
        · exact .inl q
      · exact .inr h

theorem bindL_skip {kindOf : Str → Option NameKind} {x : Str} : ∀ (binds : List (Str × Value)) (m : Str → Option Value), x ∉ binds.map (·.1) → bindL kindOf binds m x = m x
  | [], _, _ => rfl
  | (y, v) :: r, m, h => by
    rw [bindL, bindL_skip r _ fun q => h (.tail _ q)]
    split
    · show (if x = y then some v else m x) = m x
      rw [if_neg fun q => h (by rw [q]; exact .head _)]
    · rfl
theorem bindC_skip {kindOf : Str → Option NameKind} {x : Str} : ∀ (binds : List (Str × Value)) (m : Str → Option Value), x ∉ binds.map (·.1) → bindC kindOf binds m x = m x
  | [], _, _ => rfl
  | (y, v) :: r, m, h => by
    rw [bindC, bindC_skip r _ fun q => h (.tail _ q)]
    split
    · rfl
    · show (if x = y then some v else m x) = m x
      rw [if_neg fun q => h (by rw [q]; exact .head _)]
theorem bindL_get {kindOf : Str → Option NameKind} {x : Str} {v : Value} (hk : kindOf x = some .local) : ∀ (binds : List (Str × Value)) (m : Str → Option Value), (binds.map (·.1)).Nodup → (x, v) ∈ binds → bindL kindOf binds m x = some v
  | [], _, _, h => by cases h
  | (y, u) :: r, m, nd, h => by
    rw [bindL]
    rcases List.mem_cons.mp h with q | q
    · cases q
      rw [bindL_skip r _ (List.nodup_cons.mp nd).1, if_pos hk]; simp
    · exact bindL_get hk r _ (List.nodup_cons.mp nd).2 q
theorem bindC_get {kindOf : Str → Option NameKind} {x : Str} {v : Value} (hk : kindOf x ≠ some .local) : ∀ (binds : List (Str × Value)) (m : Str → Option Value), (binds.map (·.1)).Nodup → (x, v) ∈ binds → bindC kindOf binds m x = some v
  | [], _, _, h => by cases h
  | (y, u) :: r, m, nd, h => by
    rw [bindC]
    rcases List.mem_cons.mp h with q | q
    · cases q
      rw [bindC_skip r _ (List.nodup_cons.mp nd).1, if_neg hk]; simp
    · exact bindC_get hk r _ (List.nodup_cons.mp nd).2 q

theorem zipIdx_lookup {x : Str} {i : Nat} : ∀ (l : List Str) (k : Nat), (l.zipIdx k).lookup x = some i → k ≤ i ∧ l[i - k]? = some x
  | [], _, h => by cases h
  | y :: l, k, h => by
    rw [List.zipIdx_cons, List.lookup_cons] at h
    split at h
    · rename_i hx; cases h; rw [beq_iff_eq] at hx; subst hx; exact ⟨Nat.le_refl _, by simp⟩
    · obtain ⟨h1, h2⟩ := zipIdx_lookup l (k + 1) h
      refine ⟨by omega, ?_⟩
      have : i - k = (i - (k + 1)) + 1 := by omega
      rw [this]; simpa using h2
theorem smOk_zip (l : List Str) : SmOk l.zipIdx := fun x y i hx hy => by
  have h1 := (zipIdx_lookup l 0 hx).2
  have h2 := (zipIdx_lookup l 0 hy).2
  rw [h1] at h2; exact Option.some.inj h2

theorem pair_inj {l : List (Str × Addr)} {x y : Str} {c : Addr} (h : l.Pairwise fun a b => a.2 ≠ b.2) (hx : (x, c) ∈ l) (hy : (y, c) ∈ l) : x = y := by
  induction l with
  | nil => cases hx
  | cons p r ih =>
    rw [List.pairwise_cons] at h
    rcases List.mem_cons.mp hx with q | q <;> rcases List.mem_cons.mp hy with z | z
    · rw [← q] at z; exact (Prod.mk.inj z).1.symm
    · exact absurd rfl (by have := h.1 _ z; rw [← q] at this; exact this)
    · exact absurd rfl (by have := h.1 _ q; rw [← z] at this; exact this)
    · exact ih h.2 q z

end Mine


-- part MiniKin
set_option maxRecDepth 100000
set_option linter.unusedVariables false
namespace Mine
open PySem

theorem lk_ve_class : typeLookup (.type "ValueError") "__class__" = pure (some (.builtin "object.__class__")) := by rw [typeLookup_type, builtinLookup_eq_fast]; kernel_rfl
theorem lk_ve_getattr : typeLookup (.type "ValueError") "__getattr__" = pure none := by rw [typeLookup_type, builtinLookup_eq_fast]; kernel_rfl
theorem mro_ve : mroOf (.type "ValueError") = pure bmVE := by kernel_rfl

/-- the parts of a class of exceptions -/
structure ExcK (h : Heap) (c : Addr) (tl : List Value) (mN : Str → Option Value) (C0 : Addr) (m0 : Str → Option Value) : Prop where
  obj : ∃ nm q N bs hdct sn sub ab col dd k0 k1 k2 k3 k5, h.get? c = some (excClassObj nm q c N bs tl hdct sn sub ab col dd k0 k1 k2 k3 k5 "ValueError.__new__") ∧ h.Ns N mN
  q : ∀ n ∈ exQuiet, mN n = none
  zero : ∃ c0 dd sl cd, h.get? C0 = some { cls := c0, dict := dd, data := .cls cd, slots := sl } ∧ h.Ns cd.ns m0
  q0 : ∀ n ∈ exQuiet, m0 n = none
  tail : tl = bmVE ∨ tl = .ref C0 :: bmVE
theorem ExcCls.k {B h : Heap} {c : Nat} (hc : ExcCls B c) (kk : ∀ b o, B.get? b = some o → h.get? b = some o) : ∃ mN m0, ExcK h (clsK B c) (tlK B c) mN (clsK B 0) m0 := by
  obtain ⟨_, ⟨c0, dd0, sl, cd, m0, h1, h2, h3, h4⟩, N, q, bs, hdct, sn, sub, ab, col, dd, k0, k1, k2, k3, k5, mN, hC, hN, hq, _⟩ := hc
  refine ⟨mN, m0, ⟨_, _, _, _, _, _, _, _, _, _, _, _, _, _, _, kk _ _ hC, Ns_at hN fun o e => kk _ o e⟩, hq, ⟨_, _, _, _, kk _ _ h1, Ns_at h3 fun o e => kk _ o e⟩, h4, ?_⟩
  unfold tlK
  by_cases z : c = 0
  · rw [if_pos z]; exact .inl rfl
  · rw [if_neg z]; exact .inr rfl

section
variable {prog : Program} {w : World} {M : Model} {A : Around} {E : Value → Shared → Prop} {h : Heap} {g : Array GenState} {d : Drawn} {t : Nat} {os : OsState} {a C C0 : Addr} {o : Obj} {tl : List Value} {mN m0 : Str → Option Value}

theorem exc_lookup {n : Str} {y : Option Value} {Q : Option Value → Shared → Prop} (K : ExcK h C tl mN C0 m0) (hn : n ∈ exQuiet) (hB : typeLookup (.type "ValueError") n = pure y) (hq : Q y ⟨h, g, d, t, os⟩) :
    wpAny M A (typeLookup (.ref C) n) Q E ⟨h, g, d, t, os⟩ := by
  have hrest : lookupAlong bmVE n = pure y := by rw [typeLookup_eq, mro_ve] at hB; exact hB
  obtain ⟨⟨nm, q, N, bs, hdct, sn, sub, ab, col, dd, k0, k1, k2, k3, k5, hC, hN⟩, h1, ⟨c0, dd0, sl, cd, h2, h3⟩, h4, h5⟩ := K
  rw [typeLookup_eq]
  refine wpAny_bind (wpAny_mroOf_exc hC ?_)
  rw [lookupAlong_cons]
  refine wpAny_bind (wpAny_classOwn_exc hC hN ?_)
  rw [h1 n hn]
  rcases h5 with rfl | rfl
  · show wpAny M A (lookupAlong bmVE n) Q E _
    rw [hrest]; exact wpAny_pure hq
  · show wpAny M A (lookupAlong (.ref C0 :: bmVE) n) Q E _
    rw [lookupAlong_cons]
    refine wpAny_bind (wpAny_classOwn_cls h2 h3 ?_)
    rw [h4 n hn]
    show wpAny M A (lookupAlong bmVE n) Q E _
    rw [hrest]; exact wpAny_pure hq

theorem exc_sub {base : Value} {b : Bool} {Q : Bool → Shared → Prop} (K : ExcK h C tl mN C0 m0) (hb : (Value.ref C :: tl).contains base = b) (hq : Q b ⟨h, g, d, t, os⟩) : wpAny M A (isSubtype (.ref C) base) Q E ⟨h, g, d, t, os⟩ := by
  obtain ⟨⟨nm, q, N, bs, hdct, sn, sub, ab, col, dd, k0, k1, k2, k3, k5, hC, hN⟩, _⟩ := K
  exact wpAny_isSubtype_exc hC (hb ▸ hq)
theorem ExcK.has (K : ExcK h C tl mN C0 m0) {T : String} (e : bmVE.contains (.type T) = true) : (Value.ref C :: tl).contains (.type T) = true := by
  rw [List.contains_cons]
  rcases K.tail with rfl | rfl
  · rw [e, Bool.or_true]
  · rw [List.contains_cons, e, Bool.or_true, Bool.or_true]

theorem kcls_get {R : Result → Shared → Prop} (K : ExcK h C tl mN C0 m0) (hx : h.get? a = some o) (hc : o.cls = .ref C) (hq : R (.ok (.ret (.ref C))) ⟨h, g, d, t, os⟩) :
    codeAny (model prog w) A (.call (.builtin "getset_descriptor.__get__") ⟨[.builtin "object.__class__", .ref a, .ref C], []⟩) R ⟨h, g, d, t, os⟩ := by
  have hT5 : (⟨h, g, d, t, os⟩ : Shared).TypeIs (.builtin "object.__class__") "getset_descriptor" := F.typeOf_object_class
  have hcB : (Value.ref C :: tl).contains (.type (".".intercalate ("object.__class__".cutAt '.').dropLast)) = true := by
    rw [F.owner_object_class]; exact K.has (by decide)
  refine codeAny_call_builtin F.slot_gs_get.plain F.entry_gs_get (F.slot_gs_get.check _ _ _ _ _ _ _ _ hT5 (F.args_gs_get _ _ _) ?_)
  repeat (any_goals (first | assumption | (with_reducible refine wpAny_loadPart_at hx ?_; rw [hc]) | (with_reducible refine exc_sub K hcB ?_) | wp_step))
  refine ⟨Code.quiet_builtin _ (by decide +kernel), codeAny_builtin F.entry_object_class ?_⟩
  repeat (any_goals (first | assumption | (with_reducible refine wpAny_loadPart_at hx ?_; rw [hc]) | wp_step))

theorem kcls_check {nameV : Value} {Q : Unit → Shared → Prop} (K : ExcK h C tl mN C0 m0) (hx : h.get? a = some o) (hc : o.cls = .ref C) (hq : Q () ⟨h, g, d, t, os⟩) : wpAny M A (checkBuiltinCall "BaseException.__getattribute__" ⟨[.ref a, nameV], []⟩) Q E ⟨h, g, d, t, os⟩ := by
  have hk : builtinKind "BaseException.__getattribute__" = some .slot := by decide +kernel
  have hsplit : splitId "BaseException.__getattribute__" = some ("BaseException", "__getattribute__") := by decide +kernel
  have hcB : (Value.ref C :: tl).contains (.type "BaseException") = true := K.has (by decide)
  have ha := F.args_bexc_ga (.ref a) nameV
  simp only [checkBuiltinCall, hk, hsplit]
  refine wpAny_bind ?_
  · unfold isInstance
    repeat (first | (with_reducible refine wpAny_loadPart_at hx ?_; rw [hc]) | (with_reducible refine exc_sub K hcB ?_) | wp_step)
    exact hq

theorem kcls_entry {tk : Tok} {Q : Fin → Shared → Prop} (K : ExcK h C tl mN C0 m0) (hx : h.get? a = some o) (hc : o.cls = .ref C) (hq : Q (.done (.ret (.ref C))) ⟨h, g, d, t, os⟩) :
    wpAny (model prog w) A (Builtin.«object.__getattribute__» ⟨[.ref a, .str "__class__" tk], []⟩) Q E ⟨h, g, d, t, os⟩ := by
  have hT5 : (⟨h, g, d, t, os⟩ : Shared).TypeIs (.builtin "object.__class__") "getset_descriptor" := F.typeOf_object_class
  have f5 := F.typeOf_object_class
  have f6 := F.slot_gs_get.lookup
  have f7 := F.slot_gs_set.lookup
  have hmA : ("__class__" : Str) ∈ exQuiet := .tail _ (.tail _ (.tail _ (.head _)))
  repeat (any_goals (first | assumption | (with_reducible refine wpAny_loadPart_at hx ?_; rw [hc]) | with_reducible refine exc_lookup K hmA lk_ve_class ?_ | wp_step))
  refine kcls_get K hx hc ?_
  repeat (any_goals (first | assumption | wp_step))

theorem kcls_call {tk : Tok} {R : Result → Shared → Prop} (K : ExcK h C tl mN C0 m0) (hx : h.get? a = some o) (hc : o.cls = .ref C) (hq : R (.ok (.ret (.ref C))) ⟨h, g, d, t, os⟩) :
    codeAny (model prog w) A (.call (.builtin "BaseException.__getattribute__") ⟨[.ref a, .str "__class__" tk], []⟩) R ⟨h, g, d, t, os⟩ :=
  codeAny_call_builtin F.excAttr_ValueError.ga.plain F.entry_bexc_ga (kcls_check K hx hc (kcls_entry K hx hc hq))

theorem kcls_by {tk : Tok} {Q : Value → Shared → Prop} (K : ExcK h C tl mN C0 m0) (hx : h.get? a = some o) (hc : o.cls = .ref C) (hq : Q (.ref C) ⟨h, g, d, t, os⟩) :
    wpAny (model prog w) A (getAttrBy (.ref a) (.str "__class__" tk) false) Q E ⟨h, g, d, t, os⟩ := by
  have f3 := F.excAttr_ValueError.ga.bind (.ref a)
  have hx0 : (false && onTheHeap (Value.builtin "BaseException.__getattribute__")) = false := rfl
  have hx2 : (Value.builtin "BaseException.__getattribute__" == Value.builtin "object.__getattribute__") = false := by decide +kernel
  have hx1 : (onTheHeap (Value.ref C) && Value.builtin "BaseException.__getattribute__" == Value.builtin "object.__getattribute__") = false := by rw [hx2]; rfl
  have hm1 : ("__getattribute__" : Str) ∈ exQuiet := .tail _ (.head _)
  have hm2 : ("__getattr__" : Str) ∈ exQuiet := .tail _ (.tail _ (.head _))
  repeat (any_goals (first | assumption | (with_reducible refine wpAny_loadPart_at hx ?_; rw [hc]) | with_reducible refine exc_lookup K hm1 F.excAttr_ValueError.ga.lookup ?_ | with_reducible refine exc_lookup K hm2 lk_ve_getattr ?_ | wp_step))
  refine kcls_call K hx hc ?_
  repeat (any_goals (first | assumption | wp_step))

theorem kcls_attr {Q : Option Value → Shared → Prop} (K : ExcK h C tl mN C0 m0) (hx : h.get? a = some o) (hc : o.cls = .ref C) (hq : Q (some (.ref C)) ⟨h, g, d, t + 1, os⟩) : wpAny (model prog w) A (getAttr? (.ref a) "__class__") Q E ⟨h, g, d, t, os⟩ := by
  unfold getAttr? getAttrBy?
  repeat (any_goals (first | assumption | with_reducible apply kcls_by K hx hc | wp_step))

/-- isinstance(e, K) for a class of ours -/
theorem isi_nested {D : Addr} {b : Bool} {od : Obj} {cd : ClassData} {dep : Int} {tk : Tok} {Q : Fin → Shared → Prop} (K : ExcK h C tl mN C0 m0) (hx : h.get? a = some o) (hc : o.cls = .ref C)
    (hD : h.get? D = some od) (hD2 : od.cls = .type "type") (hD3 : od.data = .cls cd) (hb : (Value.ref C :: tl).contains (.ref D) = b) (hq : ∀ t, Q (.done (.ret (.bool b))) ⟨h, g, d, t, os⟩) :
    wpAny (model prog w) A (Builtin.«isinstance.nested» ⟨[.ref a, .ref D, .int dep tk], []⟩) Q E ⟨h, g, d, t, os⟩ := by
  by_cases z : C = D
  · subst z
    have : b = true := by rw [← hb]; simp
    subst this
    unfold Builtin.«isinstance.nested»
    repeat (any_goals (first | exact hq _ | assumption | (with_reducible refine wpAny_loadPart_at hx ?_; rw [hc]) | wp_step))
  · have z' : (Value.ref C == Value.ref D) = false := by simpa using z
    obtain ⟨⟨nm, q, N, bs, hdct, sn, sub, ab, col, dd, k0, k1, k2, k3, k5, hC, hN⟩, _⟩ := id K
    unfold Builtin.«isinstance.nested»
    cases b <;> repeat (any_goals (first | exact hq _ | assumption | (with_reducible refine wpAny_loadPart_at hx ?_; rw [hc]) | (with_reducible refine wpAny_loadPart_at hD ?_; first | rw [hD2] | rw [hD3]) | (with_reducible refine exc_sub K hb ?_) | with_reducible refine wpAny_loadPart_at hC ?_ | with_reducible apply kcls_attr K hx hc | wp_step))
end
end Mine


-- part MiniKin2
set_option maxRecDepth 4000
set_option linter.unusedVariables false
namespace Mine
open PySem

section
variable {n : Nat} {C : Cf} {W : Nat} {prog : Program} {w : World} {B : Heap} {sc : Scope} {sm : List (Str × Nat)} {g : GMap} {F : Nat → Option MFun} {mg mb : Str → Option Value}
variable {env : Env} {ρ : Rho} {σ : MH} {μ : List Addr} {s : Shared} {A : Around} {E : Value → Shared → Prop} {X : XE} {c : Nat} {e : Addr} {oe : Obj}

theorem isi_own {k : Nat} {Q : Value → Shared → Prop} (kk : ∀ b o, B.get? b = some o → s.heap.get? b = some o) (hc : ExcCls B c) (hk : ExcCls B k) (he : s.heap.get? e = some oe) (hcls : oe.cls = .ref (clsK B c))
    (hq : ∀ tk, Q (.bool (decide (k = c ∨ k = 0))) { s with toks := tk }) : wpAny (model prog w) A (call (.builtin "isinstance") [.ref e, .ref (clsK B k)]) Q E s := by
  have hm := mro_has hc hk
  obtain ⟨mN, m0, K⟩ := hc.k kk
  obtain ⟨_, _, N', q', bs', hdct', sn', sub', ab', col', dd', k0', k1', k2', k3', k5', mN', hK, _⟩ := hk
  have hK := kk _ _ hK
  refine call_isinstance (S := fun _ R s => (s.heap.get? e = some oe ∧ ExcK s.heap (clsK B c) (tlK B c) mN (clsK B 0) m0 ∧ s.heap.get? (clsK B k) = some (excClassObj (clsName k) q' (clsK B k) N' bs' (tlK B k) hdct' sn' sub' ab' col' dd' k0' k1' k2' k3' k5' "ValueError.__new__")) ∧ ∀ tk, R (.ok (.ret (.bool (decide (k = c ∨ k = 0))))) { s with toks := tk })
    (fun prog w A R s hs => isinstance_outer ?_ (by intro q; cases q)) ⟨⟨he, K, hK⟩, hq⟩
  obtain ⟨h, gg, dr, tt, os⟩ := s
  obtain ⟨⟨he, K, hK⟩, hq⟩ := hs
  exact isi_nested K he hcls hK rfl rfl hm fun t => hq t

/-- what the names stand for -/
structure KF (B : Heap) (sc : Scope) (mg mb : Str → Option Value) (env : Env) (y : Str) (e : Addr) (oe : Obj) (c : Nat) (h : Heap) : Prop where
  scope : env.scope = sc
  kind : env.scope.kind = .function
  kk : ∀ b o, B.get? b = some o → h.get? b = some o
  ng : h.Ns env.globals mg
  nb : h.Ns env.builtins mb
  loc : sc.names.lookup y = some .local
  ns : ∃ m, h.Ns env.locals m ∧ m y = some (.ref e)
  obj : h.get? e = some oe
  cls : oe.cls = .ref (clsK B c)
  exc : ExcCls B c

theorem KF.kindOf {y : Str} (k : KF B sc mg mb env y e oe c s.heap) (z : Str) : env.kindOf z = sc.names.lookup z := by unfold Env.kindOf; rw [k.scope]

theorem isi_ev {y : Str} {k : Nat} {ex : Expr} {Q : Value → Shared → Prop} (G : GOk g F B mg mb) (K : KF B sc mg mb env y e oe c s.heap) (hy : nameOk y = true) (h : isiK g sc y k ex = true)
    (hq : ∀ tk, Q (.bool (decide (k = c ∨ k = 0))) { s with toks := tk }) : wpAny (model prog w) A (eval ex env) Q E s ∧ isStar ex = false := by
  obtain ⟨f, pf, es, q, rfl, h01⟩ := onCall_elim h
  rw [Bool.and_eq_true] at h01
  obtain ⟨h4, h5⟩ := h01
  obtain ⟨a1, a2, rfl, h51⟩ := two_elim h5
  rw [Bool.and_eq_true] at h51
  obtain ⟨z1, pz1, rfl, h6⟩ := onName_elim h51.1
  obtain ⟨z2, pz2, rfl, h7⟩ := onName_elim h51.2
  have h6 := of_decide_eq_true h6
  subst h6
  obtain ⟨m, hn, hm⟩ := K.ns
  obtain ⟨hg, hk⟩ := G.cls _ _ (globK_split h7).2.2
  refine ⟨wpAny_Call_Name_kw (name_built K.ng K.nb K.scope K.kind h4 (G.bi _ _ (globK_split h4).2.2) ?_), rfl⟩
  refine Calls.callWith_builtin (noStar_back (noStar_two rfl rfl)) (args_eq (noStar_two rfl rfl) (two_spliced rfl rfl (wpAny_Name (wpAny_loadName_local K.kind (by rw [K.kindOf]; exact K.loc) hn hm ?_) (nameOk_1 hy))))
  exact name_glob K.ng K.scope K.kind h7 hg (isi_own K.kk K.exc hk K.obj K.cls hq)

theorem isis_ev {y : Str} {pos : Pos} (G : GOk g F B mg mb) (hy : nameOk y = true) : ∀ (ks : List Nat) (es : List Expr) {s : Shared} {Q : List Value → Shared → Prop}, KF B sc mg mb env y e oe c s.heap → isisK g sc y ks es = true →
    (∀ tk, Q (ks.map fun k => .bool (decide (k = c ∨ k = 0))) { s with toks := tk }) → wpAny (model prog w) A (spliced (backTo pos (starEach es env))) Q E s
  | [], es, s, Q, K, h, hq => by
    rw [List.isEmpty_iff.mp (show es.isEmpty = true from h)]
    exact wpAny_items_nil (hq s.toks)
  | k :: ks, [], s, Q, K, h, hq => (Bool.false_ne_true h).elim
  | k :: ks, ex :: es, s, Q, K, h, hq => by
    have h1 := and_left h
    have h2 := and_right h
    refine wpAny_items_cons (isi_ev G K hy h1 fun tk => ?_).1 (star_cons (isi_ev (prog := prog) (w := w) (A := A) (E := E) (Q := fun _ _ => True) G K hy h1 fun _ => trivial).2)
    exact isis_ev G hy ks es (s := { s with toks := tk }) K h2 hq

noncomputable def kV (c : Nat) (ks : List Nat) : List Value := ks.map fun k => .bool (decide (k = c ∨ k = 0))

theorem list_ev {y : Str} {ks : List Nat} {v : Expr} {Q : Value → Shared → Prop} (G : GOk g F B mg mb) (K : KF B sc mg mb env y e oe c s.heap) (hy : nameOk y = true) (hl : ks.length ≤ 8) (h : onList (isisK g sc y ks) v = true)
    (hq : ∀ tk, Q (.ref s.heap.objs.size) { s with heap := s.heap.push (listObj (kV c ks) 0), toks := tk }) : wpAny (model prog w) A (eval v env) Q E s := by
  obtain ⟨es, p, rfl, h⟩ := onList_elim h
  exact wpAny_List (isis_ev G hy ks es K h fun tk => ⟨by rw [List.length_map]; exact Nat.le_trans hl (by decide), hq tk⟩)

theorem plus_ev {y f : Str} {ks : List Nat} {v : Expr} {L : Addr} {l1 : List Value} {n1 : Nat} {m : Str → Option Value} {Q : Value → Shared → Prop} (G : GOk g F B mg mb) (K : KF B sc mg mb env y e oe c s.heap) (hy : nameOk y = true) (hf : nameOk f = true) (hl : ks.length ≤ 8) (h : plusK g sc y f ks v = true)
    (kf : sc.names.lookup f = some .local) (hn : s.heap.Ns env.locals m) (hm : m f = some (.ref L)) (hL : s.heap.get? L = some (listObj l1 n1)) (hl1 : l1.length ≤ 8)
    (hq : ∀ tk, Q (.ref (s.heap.objs.size + 1)) { s with heap := (s.heap.push (listObj (kV c ks) 0)).push (listObj (l1 ++ kV c ks) 0), toks := tk }) : wpAny (model prog w) A (eval v env) Q E s ∧ isComp v = false := by
  obtain ⟨l, o, r, p, rfl, h⟩ := onBin_elim h
  have h1 := and_left (and_left h)
  have h2 := and_right (and_left h)
  have h3 := and_right h
  obtain ⟨z, pz, rfl, h4⟩ := onName_elim h2
  have h4 := of_decide_eq_true h4
  subst h4
  cases o with
  | Add =>
    refine ⟨wpAny_BinOp (wpAny_Name (wpAny_loadName_local K.kind (by rw [K.kindOf]; exact kf) hn hm ?_) (nameOk_1 hf)), rfl⟩
    refine list_ev G K hy hl h3 fun tk => ?_
    have e1 : (s.heap.push (listObj (kV c ks) 0)).get? L = some (listObj l1 n1) := Heap.get?_push_of_some _ hL
    have e2 : (s.heap.push (listObj (kV c ks) 0)).get? s.heap.objs.size = some (listObj (kV c ks) 0) := Heap.get?_push_size _ rfl
    refine PySem.P.add_list (s := { s with heap := s.heap.push (listObj (kV c ks) 0), toks := tk }) e1 e2 ?_ (by simp [kV]; show _ ≤ 2 ^ 24; omega)
    have := hq tk
    rw [List.append_toArray]
    rw [Heap.size_push]
    exact this
  | _ => exact (Bool.false_ne_true h1).elim

theorem onAsg_elim {k : Str → Expr → Bool} {s : Stmt} (h : onAsg k s = true) : ∃ x px v p, s = .Assign [.Name x px] v p ∧ k x v = true := by
  have o := sview_ok s
  unfold onAsg at h
  generalize sview s = vw at o h
  cases o with
  | assign t v p =>
    obtain ⟨x, px, rfl, h⟩ := onName_elim h
    exact ⟨x, px, v, p, rfl, h⟩
  | _ => exact (Bool.false_ne_true h).elim
theorem onRet_elim {k : Expr → Bool} {s : Stmt} (h : onRet k s = true) : ∃ e p, s = .Return (some e) p ∧ k e = true := by
  have o := sview_ok s
  unfold onRet at h
  generalize sview s = vw at o h
  cases o with
  | ret v p =>
    cases v with
    | none => exact (Bool.false_ne_true h).elim
    | some e => exact ⟨e, p, rfl, h⟩
  | _ => exact (Bool.false_ne_true h).elim
theorem three_elim {α : Type} {k : α → α → α → Bool} {l : List α} (h : three k l = true) : ∃ x y z, l = [x, y, z] ∧ k x y z = true := by
  match l, h with
  | [x, y, z], h => exact ⟨x, y, z, rfl, h⟩

theorem KF.keep {y f : Str} {v : Value} {h h' : Heap} {m : Str → Option Value} (K : KF B sc mg mb env y e oe c h) (ne : y ≠ f) (hn : h.Ns env.locals m) (n' : h'.Ns env.locals (fun z => if z = f then some v else m z)) (k : ∀ b o, b ≠ env.locals → h.get? b = some o → h'.get? b = some o)
    (nB : B.get? env.locals = none) (nG : env.globals ≠ env.locals) (nb : env.builtins ≠ env.locals) (no : e ≠ env.locals) : KF B sc mg mb env y e oe c h' := by
  obtain ⟨m', hn', hm'⟩ := K.ns
  have := Ns_uniq hn hn'
  subst this
  exact ⟨K.scope, K.kind, fun b o q => k b o (fun z => by rw [z, nB] at q; cases q) (K.kk b o q), Ns_at K.ng fun o q => k _ o nG q, Ns_at K.nb fun o q => k _ o nb q, K.loc, ⟨_, n', by simp only [if_neg ne]; exact hm'⟩, k _ _ no K.obj, K.cls, K.exc⟩
theorem KF.grow {y : Str} {h h' : Heap} (K : KF B sc mg mb env y e oe c h) (k : ∀ b o, h.get? b = some o → h'.get? b = some o) : KF B sc mg mb env y e oe c h' := by
  obtain ⟨m', hn', hm'⟩ := K.ns
  exact ⟨K.scope, K.kind, fun b o q => k b o (K.kk b o q), Ns_at K.ng fun o q => k _ o q, Ns_at K.nb fun o q => k _ o q, K.loc, ⟨_, Ns_at hn' fun o q => k _ o q, hm'⟩, k _ _ K.obj, K.cls, K.exc⟩

theorem kd_call {a : Addr} {Q : Value → Shared → Prop} (G : GOk g F B mg mb) (D : KdAt g B a) (hroom : A.depth < recursionLimit) (kk : ∀ b o, B.get? b = some o → s.heap.get? b = some o) (hc : ExcCls B c) (he : s.heap.get? e = some oe) (hcls : oe.cls = .ref (clsK B c))
    (hq : ∀ h' tk L, (∀ b o, s.heap.get? b = some o → h'.get? b = some o) → s.heap.get? L = none → h'.get? L = some (listObj (kV c [1, 2, 3, 4, 5, 6, 7, 8]) 0) → Q (.ref L) { s with heap := h', toks := tk }) :
    codeAny (model prog w) A (.call (.ref a) ⟨[.ref e], []⟩) (fun r s' => match r with | .ok (.ret v) => Q v s' | .ok _ => False | .error e => E e s') s := by
  obtain ⟨o, fd, body, y, f, ho, hd, hcd, hb, hcl, hgl, hbl, hdf, hchk⟩ := D
  unfold chkKd at hchk
  simp only [Bool.and_eq_true, List.isEmpty_iff, Option.isNone_iff_eq_none, decide_eq_true_eq, beq_iff_eq] at hchk
  obtain ⟨⟨⟨⟨⟨⟨⟨⟨⟨⟨⟨⟨⟨c1, c2⟩, c3⟩, c4⟩, c5⟩, c6⟩, c7⟩, c8⟩, c9⟩, c10⟩, c11⟩, c12⟩, c13⟩, c14⟩ := hchk
  obtain ⟨s1, s2, s3, rfl, c15⟩ := three_elim c14
  simp only [Bool.and_eq_true] at c15
  obtain ⟨⟨d1, d2⟩, d3⟩ := c15
  obtain ⟨x1, p1, v1, q1, rfl, d1⟩ := onAsg_elim d1
  obtain ⟨x2, p2, v2, q2, rfl, d2⟩ := onAsg_elim d2
  obtain ⟨v3, q3, rfl, d3⟩ := onRet_elim d3
  have i1 := of_decide_eq_true (and_left d1)
  have i2 := of_decide_eq_true (and_left d2)
  subst i1
  subst i2
  have hbind : bindArgs fd ⟨[.ref e], []⟩ = pure (([y].zip [Value.ref e])) := bindArgs_plain c1 c2 c3 c4 hdf c5 (by simp) rfl
  refine codeAny_call_cells hroom (kk _ _ ho) hd (G.lim.keeps kk) (hcd.keeps kk) hb hbind hcl (fun x hx => ?_) (fun s₁ ic => ?_) c11 c10 c9
  · rw [List.mem_singleton.mp hx]; exact .inl c12
  obtain ⟨h₁, tk, rfl, kq⟩ := ic.done
  have hns := ic.toInCall.ns
  have hloc : (callEnvC fd s.heap.objs.size a).locals = s.heap.objs.size := rfl
  rw [hloc] at hns
  have hk : ∀ z, (callEnvC fd s.heap.objs.size a).kindOf z = fd.scope.names.lookup z := fun z => rfl
  have my := bindL_get (v := .ref e) (show (callEnvC fd s.heap.objs.size a).kindOf y = some .local from c12) ([y].zip [Value.ref e]) (fun _ => none) (by simp) (.head _)
  have nG : (callEnvC fd s.heap.objs.size a).globals ≠ s.heap.objs.size := fun z => by
    have : fd.globals = s.heap.objs.size := z
    obtain ⟨o', e'⟩ := Ns_alive (Ns_at G.ng fun o e => kk _ o e)
    rw [← hgl, this] at e'; exact absurd (Heap.lt_size e') (Nat.lt_irrefl _)
  have nb : (callEnvC fd s.heap.objs.size a).builtins ≠ s.heap.objs.size := fun z => by
    have : fd.builtins = s.heap.objs.size := z
    obtain ⟨o', e'⟩ := Ns_alive (Ns_at G.nb fun o e => kk _ o e)
    rw [← hbl, this] at e'; exact absurd (Heap.lt_size e') (Nat.lt_irrefl _)
  have nB : B.get? s.heap.objs.size = none := by
    cases q : B.get? s.heap.objs.size with
    | none => rfl
    | some o => exact absurd (Heap.lt_size (kk _ _ q)) (Nat.lt_irrefl _)
  have no : e ≠ s.heap.objs.size := Nat.ne_of_lt (Heap.lt_size he)
  have lt1 : s.heap.objs.size < h₁.objs.size := by obtain ⟨o', e'⟩ := Ns_alive hns; exact Heap.lt_size e'
  have K1 : KF B fd.scope mg mb (callEnvC fd s.heap.objs.size a) y e oe c h₁ :=
    ⟨rfl, c9, fun b o q => kq b o (kk b o q), by show h₁.Ns fd.globals mg; rw [hgl]; exact Ns_at G.ng fun o e => kq _ o (kk _ o e), by show h₁.Ns fd.builtins mb; rw [hbl]; exact Ns_at G.nb fun o e => kq _ o (kk _ o e), c12, ⟨_, hns, my⟩, kq _ _ he, hcls, hc⟩
  have hp : ((callEnvC fd s.heap.objs.size a).scope.kind == .class || ((callEnvC fd s.heap.objs.size a).scope.kind == .module && (callEnvC fd s.heap.objs.size a).locals != (callEnvC fd s.heap.objs.size a).globals)) = false := by
    rw [show (callEnvC fd s.heap.objs.size a).scope.kind = .function from c9]; rfl
  have nc1 : isComp v1 = false := by obtain ⟨_, _, rfl, _⟩ := onList_elim (and_right d1); rfl
  have nc2 : isComp v2 = false := by obtain ⟨_, _, _, _, rfl, _⟩ := onBin_elim (and_right d2); rfl
  refine wpAny_execs_cons (wpAny_Assign_Name (list_ev (s := { s with heap := h₁, toks := tk }) G K1 c7 (by decide) (and_right d1) fun tk1 => ?_) (swaps_false nc1))
  have g1 := push_keep h₁ (listObj (kV c [1, 2, 3]) 0)
  refine wpAny_storeName_local (s := { s with heap := h₁.push (listObj (kV c [1, 2, 3]) 0), toks := tk1 }) (m := _) (show (callEnvC fd s.heap.objs.size a).kindOf x2 = some .local from c13) (Ns_at hns fun o q => g1 _ o q) (fun h2 n2 sb2 => ?_) hp
  have k2 : ∀ b o, b ≠ s.heap.objs.size → (h₁.push (listObj (kV c [1, 2, 3]) 0)).get? b = some o → h2.get? b = some o := sameBut_keep sb2
  have K2 := (K1.grow g1).keep (f := x2) c6 (Ns_at hns fun o q => g1 _ o q) n2 k2 nB nG nb no
  have L2 : h2.get? h₁.objs.size = some (listObj (kV c [1, 2, 3]) 0) := k2 _ _ (Ne.symm (Nat.ne_of_lt lt1)) (Heap.get?_push_size _ rfl)
  refine wpAny_execs_cons (wpAny_Assign_Name (plus_ev (s := { s with heap := h2, toks := _ }) G K2 c7 c8 (by decide) (and_right d2) c13 n2 (by rw [if_pos rfl]) L2 (by simp [kV]) fun tk3 => ?_).1 (swaps_false nc2))
  have g3 : ∀ b o, h2.get? b = some o → ((h2.push (listObj (kV c [4, 5, 6]) 0)).push (listObj (kV c [1, 2, 3] ++ kV c [4, 5, 6]) 0)).get? b = some o := fun b o q => push_keep _ _ b o (push_keep _ _ b o q)
  refine wpAny_storeName_local (s := { s with heap := (h2.push (listObj (kV c [4, 5, 6]) 0)).push (listObj (kV c [1, 2, 3] ++ kV c [4, 5, 6]) 0), toks := tk3 }) (show (callEnvC fd s.heap.objs.size a).kindOf x2 = some .local from c13) (Ns_at n2 fun o q => g3 _ o q) (fun h4 n4 sb4 => ?_) hp
  have k4 : ∀ b o, b ≠ s.heap.objs.size → ((h2.push (listObj (kV c [4, 5, 6]) 0)).push (listObj (kV c [1, 2, 3] ++ kV c [4, 5, 6]) 0)).get? b = some o → h4.get? b = some o := sameBut_keep sb4
  have K4 := (K2.grow g3).keep (f := x2) c6 (Ns_at n2 fun o q => g3 _ o q) n4 k4 nB nG nb no
  have lt2 : s.heap.objs.size < h2.objs.size := by obtain ⟨o', e'⟩ := Ns_alive n2; exact Heap.lt_size e'
  have L4 : h4.get? (h2.objs.size + 1) = some (listObj (kV c [1, 2, 3] ++ kV c [4, 5, 6]) 0) := k4 _ _ (by omega) (by
    have := Heap.get?_push_size (h2.push (listObj (kV c [4, 5, 6]) 0)) (o := listObj (kV c [1, 2, 3] ++ kV c [4, 5, 6]) 0) rfl
    rwa [Heap.size_push] at this)
  refine wpAny_execs_cons (wpAny_Return_some (plus_ev (s := { s with heap := h4, toks := _ }) G K4 c7 c8 (by decide) d3 c13 n4 (by rw [if_pos rfl]) L4 (by simp [kV]) fun tk5 => ?_).1)
  have lt4 : s.heap.objs.size < h4.objs.size := by obtain ⟨o', e'⟩ := Ns_alive n4; exact Heap.lt_size e'
  refine hq _ tk5 (h4.objs.size + 1) (fun b o q => push_keep _ _ b o (push_keep _ _ b o (k4 b o (Nat.ne_of_lt (Heap.lt_size q)) (g3 b o (k2 b o (Nat.ne_of_lt (Heap.lt_size q)) (g1 b o (kq b o q))))))) ?_ ?_
  · cases q : s.heap.get? (h4.objs.size + 1) with
    | none => rfl
    | some o => exact absurd (Heap.lt_size q) fun z => Nat.lt_irrefl _ (Nat.lt_trans (Nat.lt_trans lt4 (Nat.lt_succ_self _)) z)
  · have := Heap.get?_push_size (h4.push (listObj (kV c [7, 8]) 0)) (o := listObj (kV c [1, 2, 3] ++ kV c [4, 5, 6] ++ kV c [7, 8]) 0) rfl
    rwa [Heap.size_push] at this

end
end Mine


-- part MiniKin3
set_option maxRecDepth 4000
set_option linter.unusedVariables false
namespace Mine
open PySem

section
variable {n : Nat} {C : Cf} {W : Nat} {prog : Program} {w : World} {B : Heap} {sc : Scope} {sm : List (Str × Nat)} {g : GMap} {F : Nat → Option MFun} {mg mb : Str → Option Value}
variable {env : Env} {ρ : Rho} {σ : MH} {μ : List Addr} {s : Shared} {A : Around} {E : Value → Shared → Prop} {X : XE}

/-- a name that is no slot's is bound or goes -/
theorem aside {h h' : Heap} {y : Str} {v : Option Value} {m : Str → Option Value} (hy : sm.lookup y = none) (frm : Frm B env μ h) (vars : Vars env sm ρ μ h) (rel : HRel B μ σ h) (hn : h.Ns env.locals m) (n' : h'.Ns env.locals (fun z => if z = y then v else m z)) (sb : Heap.SameBut env.locals h h') :
    HRel B μ σ h' ∧ StepF env μ μ h h' ∧ Frm B env μ h' ∧ Vars env sm ρ μ h' := by
  have k : ∀ b o, ¬ b = env.locals → h.get? b = some o → h'.get? b = some o := sameBut_keep sb
  refine ⟨rel.other (P := fun b => b = env.locals) (fun b o nb e => k b o nb e) (fun b z => z ▸ frm.locMu) (fun b z => z ▸ frm.locB), own_upd (.inl rfl) sb (Ns_alive n'), ?_, ?_⟩
  · refine ⟨frm.kind, frm.glob, frm.bl, ⟨_, n'⟩, frm.locMu, frm.locB, fun x c q => ?_, frm.cinj, frm.has⟩
    obtain ⟨⟨v, ic⟩, ne, nm, nb⟩ := frm.cell x c q
    exact ⟨⟨v, IsCell_at ic fun o => k c o ne⟩, ne, nm, nb⟩
  · intro x i v hk hl hr
    obtain ⟨u, b, rr⟩ := vars x i v hk hl hr
    refine ⟨u, ?_, rr⟩
    have nx : x ≠ y := fun z => by rw [z, hy] at hl; cases hl
    rcases b with ⟨k, m', n1, e'⟩ | ⟨k', c', l', ic⟩
    · refine .inl ⟨k, _, n', ?_⟩
      simp only [if_neg nx]
      rw [Ns_uniq hn n1]; exact e'
    · exact .inr ⟨k', c', l', IsCell_at ic fun o => k c' o (frm.cell x c' l').2.1⟩

/-- the list on the right -/
theorem kComp_se {k w' : Nat} {e : Expr} (G : GOk g F B mg mb) (q : (chk g (kComp k w') sc sm).E e = true) : SE 1000 C prog w B sc sm (kComp k w') e := by
  obtain ⟨e1, gs, sc', p, rfl, k1⟩ := onComp_elim (show onComp _ e = true from q)
  obtain ⟨gn, rfl, k'⟩ := one_elim k1
  obtain ⟨tg, iter, ifs, a⟩ := gn
  obtain ⟨x, p2, hx, k''⟩ := onName_elim k'
  simp only at hx
  subst hx
  simp only [Bool.and_eq_true, beq_iff_eq] at k''
  obtain ⟨⟨⟨⟨⟨⟨⟨rfl, q1⟩, q2⟩, q3⟩, q4⟩, q5⟩, q6⟩, q7⟩ := k''
  obtain ⟨xr, pr, es, pr', rfl, k2⟩ := onCall_elim (show onCall _ iter = true from q5)
  obtain ⟨yr, rfl, k3⟩ := one_elim k2
  simp only [Bool.and_eq_true, Bool.not_eq_true'] at k3
  obtain ⟨⟨r1, r2⟩, r3⟩ := k3
  obtain ⟨c8, n8, p8, rfl, k4⟩ := onConst_elim (show onConst _ yr = true from r2)
  obtain ⟨l, os, rs, pc, rfl, k5⟩ := onCmp_elim (show onCmp _ e1 = true from q6)
  obtain ⟨o, rfl, k6⟩ := one_elim k5
  obtain ⟨r, rfl, k7⟩ := one_elim k6
  simp only [Bool.and_eq_true, decide_eq_true_eq, Bool.not_eq_true'] at k7
  obtain ⟨⟨⟨rfl, s1⟩, s2⟩, s3⟩ := k7
  obtain ⟨xl, pl, rfl, k8⟩ := onName_elim (show onName _ l = true from s1)
  obtain ⟨xw, pw, rfl, k9⟩ := onName_elim (show onName _ r = true from s2)
  refine se_lc comp_E (sc_comp (.inr fun ρ σ xs ck σ₁ hi => ?_) (compOk_of q1 q2 q4) (si_range G r1 r3 (se_const k4)) (se_cmp s3 (se_loc k8) (se_loc k9)) ?_)
  · have hi : irangeV (.int 8) σ = .ok (xs, ck) σ₁ := hi
    have : irangeV (.int 8) σ = .ok (rangeVals 0 8, fun _ => true) σ := rfl
    rw [this] at hi
    cases hi
    exact ⟨fun _ => rfl, 0, .head _⟩
  · split at q7
    · exact test_nil
    · obtain ⟨ct, nt, pt, rfl, kt⟩ := onConst_elim (show onConst _ _ = true from q7)
      exact test_one (plain3 (se_const kt) rfl (fun _ _ => rfl) (fun _ _ => rfl)).2.1
    · cases q7

noncomputable def NoX {α : Type} (r : Res α) : Prop := ∀ c h, r ≠ .exc c h
theorem NoX.bind {α β : Type} {r : Res α} {f : α → MH → Res β} (h1 : NoX r) (h2 : ∀ v h, NoX (f v h)) : NoX (r.bind f) := fun c h => by
  cases r with
  | ok v h' => exact h2 v h' c h
  | exc c' h' => exact (h1 c' h' rfl).elim
  | stuck => intro z; cases z
theorem NoX.opt {α : Type} (o : Option α) (h : MH) : NoX (Res.opt o h) := fun c h' => by cases o <;> (intro z; cases z)
theorem NoX.ok {α : Type} (v : α) (h : MH) : NoX (Res.ok v h) := fun _ _ z => by cases z
theorem NoX.stuck {α : Type} : NoX (Res.stuck : Res α) := fun _ _ z => by cases z
theorem loc_noX (i : Nat) (ρ : Rho) (h : MH) : NoX (locV i ρ h) := fun c h' => by unfold locV; split <;> (intro z; cases z)
theorem loop_noX {f : Val → MH → Res (Option Val)} {ck : MH → Bool} (hf : ∀ x h, NoX (f x h)) : ∀ (xs : List Val) (h : MH), NoX (compLoop f ck xs h)
  | [], h => NoX.ok _ _
  | x :: xs, h => (hf x h).bind fun o h1 => by
    split
    · exact (loop_noX hf xs h1).bind fun vs h2 => NoX.ok _ _
    · exact NoX.stuck
theorem newList_noX (xs : List Val) (h : MH) : NoX (newList xs h) := by unfold newList; split; exact NoX.ok _ _; exact NoX.stuck
theorem kComp_noX (k w : Nat) (ρ : Rho) (h : MH) : NoX ((sem C (kComp k w)).E ρ h) := by
  rw [kComp, comp_E]
  refine NoX.bind (NoX.bind (NoX.ok (rangeVals 0 8, fun _ => true) h) fun v h => loop_noX (fun x h => ?_) _ _) fun v h => newList_noX v h
  exact ((loc_noX k _ _).bind fun v h => (loc_noX w _ _).bind fun u h => (NoX.opt _ _).bind fun t h => NoX.ok _ _).bind fun v h => NoX.ok _ _

/-- except K as y: return isinstance(y, ValueError) and kinds(y) == [..] -/
theorem suite_k {μ' : List Addr} {σ' : MH} {c k w' : Nat} {e : Addr} {base h' : Heap} {tk : Nat} {y : Str} {ex e2 : Expr} {p1 p2 pos : Pos} {Q : Flow → Shared → Prop} {R : Result → Shared → Prop}
    (G : GOk g F B mg mb) [Small n] (cx : Cx n B X A env sc sm ρ μ σ s.heap) (a : AtH B X.l μ μ' σ' s c e base h') (h : asOk g sc sm y ex = true)
    (hh : onCmp (fun l os rs => one (fun o => one (fun r => (match o with | .Eq => true | _ => false) && onCall (fun x es => globK g sc x .kinds && one (onName fun z => decide (z = y)) es) l && (chk g (kComp k w') sc sm).E r) rs) os) e2 = true)
    (p : PostS B X env sm μ s Q ((newList (kindsL c) σ').bind fun v h => (evalE C (kComp k w') ρ h).bind fun u h => (Res.opt (eqV 8 h v u) h).bind fun b h => .ok (.ret (.bool b), ρ) h))
    (hR : ∀ f s', wpAny (model prog w) A (do bindName env y .none; unbindBehindTheSuite env y pos) (fun _ s₃ => Q f s₃) X.E s' → R (.ok f) s') :
    codeAny (model prog w) (A.mark (some (.ref e))) (.handlers (.ref e) [.ExceptHandler none (some y) [.Return (some (.BoolOp .And [ex, e2] p1)) p2] pos] env) R { s with heap := h', toks := tk } := by
  unfold asOk at h
  simp only [Bool.and_eq_true, beq_iff_eq, Option.isNone_iff_eq_none] at h
  obtain ⟨h0, ⟨h1, hy⟩, h3⟩ := h
  obtain ⟨f, pf, es, q, rfl, h01⟩ := onCall_elim h0
  rw [Bool.and_eq_true] at h01
  obtain ⟨h4, h5⟩ := h01
  obtain ⟨a1, a2, rfl, h51⟩ := two_elim h5
  rw [Bool.and_eq_true] at h51
  obtain ⟨z1, pz1, rfl, h6⟩ := onName_elim h51.1
  obtain ⟨z2, pz2, rfl, h7⟩ := onName_elim h51.2
  have h6 := of_decide_eq_true h6
  subst h6
  obtain ⟨le, os, rs, pc, rfl, k5⟩ := onCmp_elim hh
  obtain ⟨o, rfl, k6⟩ := one_elim k5
  obtain ⟨re, rfl, k7⟩ := one_elim k6
  have g1 := and_left (and_left k7)
  have g2 := and_right (and_left k7)
  have g3 := and_right k7
  have ho : o = .Eq := by cases o <;> first | rfl | exact (Bool.false_ne_true g1).elim
  subst ho
  obtain ⟨xk, pk, ek, pk', rfl, k8⟩ := onCall_elim g2
  have k9 := and_left k8
  obtain ⟨zk, rfl, k10⟩ := one_elim (and_right k8)
  obtain ⟨yk, pyk, rfl, k11⟩ := onName_elim k10
  have k11 := of_decide_eq_true k11
  subst k11
  obtain ⟨ak, hak, D⟩ := G.kinds _ (globK_split k9).2.2
  have hb : behindInMarks .Eq re = false := by
    obtain ⟨_, _, _, _, rfl, _⟩ := onComp_elim (show onComp _ re = true from g3)
    rfl
  have ky : env.kindOf yk = some .local := by rw [cx.kind]; exact h1
  have hp : (env.scope.kind == .class || (env.scope.kind == .module && env.locals != env.globals)) = false := by rw [cx.frm.kind]; rfl
  refine codeAny_handlers_suite_as (a.land fun h2 a2 => ?_)
  have frm2 := cx.frm.step a2.st.step
  have vars2 := cx.vars.step cx.frm a2.st.step
  have cx2 : Cx n B X A env sc sm ρ μ' σ' h2 := cx.step a2.st.step (a2.r.1.grow a2.b1)
  obtain ⟨m, hn⟩ := frm2.ns
  refine wpAny_storeName_local (s := { s with heap := h2, toks := tk }) ky hn (fun h3' n3 sb3 => ?_) hp
  have k3 : ∀ b o, b ≠ env.locals → h2.get? b = some o → h3'.get? b = some o := sameBut_keep sb3
  have kB : ∀ b o, B.get? b = some o → h3'.get? b = some o := fun b o q => k3 b o (fun z => by rw [z, frm2.locB] at q; cases q) (a2.old b o q)
  obtain ⟨⟨a0, fl, oe, vs, T, oT, ts, t1, t2, t3, t4, t5, t6, t7, t8, t9⟩, oe', vs', c1, c2, c3⟩ := a2.b4
  have ne : e ≠ env.locals := fun z => by
    obtain ⟨o, es, ep, eo, d, _⟩ := hn
    rw [z, eo] at t1; cases t1; rw [d] at t3; cases t3
  have e1' : h3'.get? e = some oe := k3 e oe ne t1
  have ng : h3'.Ns env.globals mg := by rw [frm2.glob]; exact Ns_at G.ng fun o e => kB _ o e
  have nb : h3'.Ns env.builtins mb := by rw [frm2.bl]; exact Ns_at G.nb fun o e => kB _ o e
  obtain ⟨rel3, stF, frm3, vars3⟩ := aside h3 frm2 vars2 cx2.rel hn n3 sb3
  have cx3 := cx2.stepF stF rel3 frm3 vars3
  have hh0 : A.handled = none := cx.ok.handled
  have nmu : e ∉ μ' := fun q => by
    obtain ⟨o, eo⟩ := a.r.1.alive q
    rw [a.b2] at eo; cases eo
  -- inside the handler
  have cxH : ∀ (E' : Value → Shared → Prop), Cx 1000 B ⟨X.l, E'⟩ (A.mark (some (.ref e))) env sc sm ρ μ' σ' h3' := fun E' =>
    ⟨cx3.scope, ⟨fun z => absurd z (by decide), fun z => absurd z (by decide), by have := cx.ok.units; show A.units + 20 * (1000 % 1000) + 110 < 9900; omega⟩, cx3.frm, cx3.vars, cx3.rel, cx3.frames, cx3.fok, cx3.here, cx3.apart, fun v hv => by
      have hv : some (Value.ref e) = some v := by
        have : (some (Value.ref e)).or A.handled = some v := hv
        simpa using this
      cases hv
      rw [t1] at c1; cases c1
      exact ⟨e, oe, vs', rfl, nmu, e1', c2, c3⟩⟩
  refine wpAny_execs_cons (wpAny_Return_some ?_)
  rw [eval_BoolOp2]
  refine wpAny_bind (wpAny_Call_Name_kw (name_built ng nb cx.scope cx.frm.kind h4 (G.bi _ _ (globK_split h4).2.2) ?_))
  refine Calls.callWith_builtin (noStar_back (noStar_two rfl rfl)) (args_eq (noStar_two rfl rfl) (two_spliced rfl rfl (wpAny_Name (wpAny_loadName_local cx.frm.kind ky n3 (by rw [if_pos rfl]) ?_) (nameOk_1 hy))))
  refine name_built ng nb cx.scope cx.frm.kind h7 (G.ty _ _ (globK_split h7).2.2) (isi_exc (B := B) (c := c) kB a.r.2 e1' t2.1 ?_)
  refine wpAny_bind (wpAny_standAt (wpAny_bind (wpAny_holding (wpAny_truthy_bool ?_))))
  show wpAny _ _ (eval (.BoolOp .And [_] p1) env) _ _ _
  rw [eval_BoolOp1]
  refine wpAny_Compare1 (wpAny_Call_Name_kw (name_glob ng cx.scope cx.frm.kind k9 hak ?_)) hb
  have ⟨okd, fdk, bdk, _, _, hok, hdk, _⟩ := D
  refine Calls.callWith_function (o := okd) (fd := fdk) (args_eq (noStar_one rfl) (one_spliced rfl (wpAny_Name (wpAny_loadName_local cx.frm.kind ky n3 (by rw [if_pos rfl]) ⟨⟨kB _ _ hok, hdk⟩, wpAny_call (kd_call G D ?_ kB a.r.2 e1' t2.1 fun h4' tk4 L k4 fL gL => ?_)⟩) (nameOk_1 hy))))
  · have := cx.ok.depth Small.lt
    show A.depth < recursionLimit
    exact Nat.lt_of_lt_of_le (show A.depth < 900 by omega) (by decide)
  have p : PostS B X env sm μ s Q ((evalE C (kComp k w') ρ (σ' ++ [.list (kindsL c)])).bind fun u h => (Res.opt (eqV 8 h (.ref σ'.length) u) h).bind fun b h => .ok (.ret (.bool b), ρ) h) := p
  have nL : L ∉ μ' := fun q => by obtain ⟨o, eo⟩ := rel3.alive q; rw [fL] at eo; cases eo
  have bL : B.get? L = none := by
    cases q : B.get? L with
    | none => rfl
    | some o => rw [kB _ _ q] at fL; cases fL
  have r4 : HRel B (μ' ++ [L]) (σ' ++ [.list (kindsL c)]) h4' := (rel3.grow k4).alloc (fun b o e => e) nL bL ⟨by show 8 ≤ lim; decide, _, 0, gL, ⟨_, _, rfl, rfl, _, _, rfl, rfl, _, _, rfl, rfl, _, _, rfl, rfl, _, _, rfl, rfl, _, _, rfl, rfl, _, _, rfl, rfl, _, _, rfl, rfl, rfl⟩⟩
  have st4 : Step μ' (μ' ++ [L]) h3' h4' := by
    have t := Step.grow (μ := μ') k4
    refine ⟨List.prefix_append _ _, t.keep, fun b hb nm => ?_⟩
    rcases List.mem_append.mp hb with hb | hb
    · exact (nm hb).elim
    · rw [List.mem_singleton.mp hb]; exact fL
  have gL' : (μ' ++ [L])[σ'.length]? = some L := by rw [← rel3.len, List.getElem?_append_right (Nat.le_refl _), Nat.sub_self]; rfl
  refine kComp_se (C := C) G g3 (X := ⟨X.l, _⟩) (s := { s with heap := h4', toks := tk4 }) ((cxH _).step st4 r4) ?_
  cases hq : (sem C (kComp k w')).E ρ (σ' ++ [.list (kindsL c)]) with
  | exc c' h' => exact (kComp_noX k w' ρ _ c' h' hq).elim
  | stuck => rw [show evalE C (kComp k w') ρ (σ' ++ [.list (kindsL c)]) = .stuck from hq] at p; exact p.elim
  | ok u σ5 =>
    rw [show evalE C (kComp k w') ρ (σ' ++ [.list (kindsL c)]) = .ok u σ5 from hq] at p
    intro μ5 u' h5 tk5 r5 st5 hu
    have p : PostS B X env sm μ s Q ((Res.opt (eqV 8 σ5 (.ref σ'.length) u) σ5).bind fun b h => .ok (.ret (.bool b), ρ) h) := p
    have hv : VRel μ5 (.ref σ'.length) (.ref L) := ⟨L, getElem?_prefix st5.pre gL', rfl⟩
    refine cmp_sound (n := 1000) (X := X) (s := { s with heap := h5, toks := tk5 }) ((cxH X.E).ok) r5 hv hu ?_
    show Post B X VRel μ5 _ _ (boolRes (Res.opt (eqV 8 σ5 (.ref σ'.length) u) σ5))
    cases he : eqV 8 σ5 (.ref σ'.length) u with
    | none => rw [he] at p; exact p.elim
    | some b =>
      rw [he] at p
      intro μ6 v6 h6 tk6 r6 st6 hv6
      rw [show v6 = .bool b from hv6]
      refine hR _ _ ?_
      have st36 : Step μ' μ6 h3' h6 := (st4.trans st5).trans st6
      have frm6 := frm3.step st36
      have vars6 := vars3.step frm3 st36
      obtain ⟨m6, n6⟩ := frm6.ns
      refine wpAny_nameGoes_keeps (s := { s with heap := h6, toks := tk6 }) ky n6 hp fun h7 v7 n7 sb7 => ?_
      obtain ⟨rel7, st7, frm7, vars7⟩ := aside h3 frm6 vars6 r6 n6 n7 sb7
      exact p μ6 _ h7 _ rel7 ((((a2.st.step.toF cx.frm.ownMu).trans stF).trans (st36.toF frm3.ownMu)).trans st7) frm7 vars7 ⟨_, rfl, rfl⟩

theorem sx_tryk [Small n] {b : MStmt} {k w' : Nat} {y : List Stmt} {hd : ExceptHandler} {pos : Pos} (G : GOk g F B mg mb) (hb : SPs n C W prog w B sc sm b y) (hh : chkK g sc sm k w' hd = true) :
    SX n C W prog w B sc sm (.tryk b k w') (.Try y [hd] [] [] pos) := fun {env ρ σ μ s A X Q} cx p => by
  have p : PostS B X env sm μ s Q (tryK C k w' ρ (exec C W b ρ σ)) := p
  refine wpAny_Try_except (hb (X := ⟨X.l, _⟩) ⟨cx.scope, cx.ok, cx.frm, cx.vars, cx.rel, cx.frames, cx.fok, cx.here, cx.apart, cx.hd⟩ ?_)
  cases q : exec C W b ρ σ with
  | stuck => rw [q] at p; exact p
  | ok pr σ' =>
    rw [q] at p
    intro μ' f h' tk r st hv
    obtain ⟨fl, ρ'⟩ := pr
    obtain ⟨hr, hf⟩ := hv
    have hr : ρ' = ρ := hr
    subst hr
    have q := p μ' f h' tk r (st.toF cx.frm.ownMu) (cx.frm.step st) (cx.vars.step cx.frm st) hf
    cases f with
    | next => exact wpAny_execs_nil q
    | _ => exact q
  | exc c σ' =>
    rw [q] at p
    have p : PostS B X env sm μ s Q ((newList (kindsL c) σ').bind fun v h => (evalE C (kComp k w') ρ h).bind fun u h => (Res.opt (eqV 8 h v u) h).bind fun b h => .ok (.ret (.bool b), ρ) h) := p
    obtain ⟨e0, outer, hX, he⟩ := cx.here
    have hfr := cx.frames
    intro μ' h' tk e base r st x
    have x : ExcAt base X.l (clsK B c) e h' := x
    have x' := x
    rw [hX] at x' hfr
    refine fly_note (s := { s with heap := h', toks := tk }) hfr he x' fun h2 n1 n2 n3 n4 => ?_
    have a2 : AtH B X.l μ μ' σ' s c e base h2 := ⟨r, st.hop x.1 n1 n4, n1, x.2.1, hX ▸ n2, n3⟩
    refine a2.land fun h3 a3 => ?_
    obtain ⟨t, nm, body, hpos⟩ := hd
    cases t with
    | none => exact (Bool.false_ne_true hh).elim
    | some t =>
      cases nm with
      | none => exact (Bool.false_ne_true hh).elim
      | some z =>
        obtain ⟨xn, px, rfl, hx3⟩ := onName_elim (and_left hh)
        obtain ⟨st, rfl, h4⟩ := one_elim (and_right hh)
        obtain ⟨ev, p2, rfl, h5⟩ := onRet_elim h4
        obtain ⟨o, es, pb, rfl, h6⟩ := onBool_elim h5
        rw [isAnd_elim (and_left h6)]
        obtain ⟨e1, e2, rfl, h7⟩ := two_elim (and_right h6)
        obtain ⟨hm, hk⟩ := G.cls xn 0 (globK_split hx3).2.2
        obtain ⟨oe, vs, e1', e2', _⟩ := a3.cls
        have ng : h3.Ns env.globals mg := by rw [cx.frm.glob]; exact Ns_at G.ng fun o e => a3.old _ o e
        refine wpAny_handleBy_cons (codeAny_handlers_test (name_glob (s := { s with heap := h3, toks := tk }) ng cx.scope cx.frm.kind hx3 hm (exc_matches a3.old a3.r.2 hk e1' e2' ?_))) (by intro z; cases z)
        rw [decide_eq_true (show 0 = c ∨ 0 = 0 from .inr rfl)]
        exact suite_k G cx a3 (and_left h7) (and_right h7) p (fun f s' z => z)

end
end Mine


-- part MiniCall
set_option maxRecDepth 4000
set_option linter.unusedVariables false
namespace Mine
open PySem

section
variable {n : Nat} {C : Cf} {W : Nat} {prog : Program} {w : World} {B : Heap} {sc : Scope} {sm : List (Str × Nat)} {g : GMap} {F : Nat → Option MFun} {mg mb : Str → Option Value}
variable {env : Env} {ρ : Rho} {σ : MH} {μ : List Addr} {s : Shared} {A : Around} {E : Value → Shared → Prop} {X : XE}

theorem slots_sound (inj : SmOk sm) : ∀ {ts : List Nat} {elts : List Expr} {vs : List Val} {ws : List Value} {ρ ρ' : Rho} {s : Shared} {Q : Unit → Shared → Prop}, chkSlots sc sm ts elts = true → bindS ts vs ρ = some ρ' → VsRel μ vs ws → Cx n B X A env sc sm ρ μ σ s.heap →
    (∀ h' tk, HRel B μ σ h' → StepF env μ μ s.heap h' → Frm B env μ h' → Vars env sm ρ' μ h' → Q () { s with heap := h', toks := tk }) →
    wpAny (model prog w) A (assignInOrder ((assignEach elts env).map (·.2)) ws) Q E s
  | [], elts, vs, ws, ρ, ρ', s, Q, hc, hb, hv, cx, k => by
    rw [List.isEmpty_iff.mp (show elts.isEmpty = true from hc)]
    cases vs with
    | nil =>
      cases hb
      rw [show ws = [] from hv]
      exact wpAny_pure (k s.heap s.toks cx.rel StepF.refl cx.frm cx.vars)
    | cons v vs => cases hb
  | i :: is, [], _, _, _, _, _, _, hc, _, _, _, _ => (Bool.false_ne_true hc).elim
  | i :: is, e :: r, vs, ws, ρ, ρ', s, Q, hc, hb, hv, cx, k => by
    obtain ⟨x, px, rfl, hx⟩ := onName_elim (and_left hc)
    cases vs with
    | nil => cases hb
    | cons v vs =>
      obtain ⟨w1, ws', rfl, hw1, hws⟩ := hv
      show wpAny (model prog w) A (holding ws' (assign (.Name x px) env w1) >>= fun _ => assignInOrder ((assignEach r env).map (·.2)) ws') Q E s
      refine wpAny_bind (wpAny_holding (wpAny_bind (wpAny_standAt (wpAny_bindName (store_sound inj hx cx hw1 fun h1 tk1 r1 st1 f1 v1 => ?_)))))
      exact slots_sound inj (and_right hc) hb hws (cx.stepF st1 r1 f1 v1) fun h2 tk2 r2 st2 f2 v2 => k h2 tk2 r2 (st1.trans st2) f2 v2

theorem slots_len : ∀ {ts : List Nat} {elts : List Expr} {vs : List Val} {ρ ρ' : Rho}, chkSlots sc sm ts elts = true → bindS ts vs ρ = some ρ' → elts.length = vs.length ∧ (assignEach elts env).length = elts.length ∧ (assignEach elts env).findIdx? (·.1) = none
  | [], elts, vs, ρ, ρ', hc, hb => by
    rw [List.isEmpty_iff.mp (show elts.isEmpty = true from hc)]
    cases vs with
    | nil => exact ⟨rfl, rfl, rfl⟩
    | cons v vs => cases hb
  | i :: is, [], _, _, _, hc, _ => (Bool.false_ne_true hc).elim
  | i :: is, e :: r, vs, ρ, ρ', hc, hb => by
    obtain ⟨x, px, rfl, hx⟩ := onName_elim (and_left hc)
    cases vs with
    | nil => cases hb
    | cons v vs =>
      obtain ⟨h1, h2, h3⟩ := slots_len (and_right hc) hb
      refine ⟨congrArg (· + 1) h1, congrArg (· + 1) h2, ?_⟩
      show ((false, assign (.Name x px) env) :: assignEach r env).findIdx? (·.1) = none
      rw [List.findIdx?_cons]
      show Option.map _ _ = none
      rw [h3]; rfl

theorem swappedStores_none {elts : List Expr} {k : Nat} {p1 : Pos} {v : Expr} (h : isTupleE v = false) : swappedStores [.Tuple elts k p1] v env = pure none := by
  cases v <;> first | rfl | exact (Bool.false_ne_true h.symm).elim

theorem sx_atup [Small n] {ts : List Nat} {e : MExpr} {elts : List Expr} {v : Expr} {k : Nat} {p1 pos : Pos} (inj : SmOk sm) (hc : chkSlots sc sm ts elts = true) (ht : isTupleE v = false) (hn : isComp v = false) (he : SE n C prog w B sc sm e v) :
    SX n C W prog w B sc sm (.atup ts e) (.Assign [.Tuple elts k p1] v pos) := fun {env ρ σ μ s A X Q} cx p => by
  refine PyProof.Rows.Assign_Tuple (he.bindS cx p fun u σ1 μ1 u' h1 tk cx1 st hu q => ?_) (show swapsWithSole [.Tuple elts k p1] v pos.line env = pure false from (swaps_false (t := .Tuple elts k p1) (line := pos.line) (env := env) hn)) (swappedStores_none ht)
  cases u with
  | ref i =>
    obtain ⟨a, ea, rfl⟩ := hu
    cases hz : σ1[i]? with
    | none => simp only [tupV, hz] at q; exact q.elim
    | some o =>
      cases o with
      | tup vs =>
        have q : PostS B X env sm μ1 { s with heap := h1, toks := tk } Q ((Res.opt (bindS ts vs ρ) σ1).bind fun ρ' h => .ok (.next, ρ') h) := by
          simp only [tupV, hz] at q; exact q
        cases hb : bindS ts vs ρ with
        | none => rw [hb] at q; exact q.elim
        | some ρ' =>
          rw [hb] at q
          obtain ⟨l, ys, m, gg, hys⟩ := cx1.rel.at ea hz
          obtain ⟨l1, l2, l3⟩ := slots_len (env := env) hc hb
          show wpAny (model prog w) A (standAt p1 >>= fun _ => unpack (.ref a) (assignEach elts env)) _ X.E { s with heap := h1, toks := tk }
          refine wpAny_bind (wpAny_standAt (wpAny_unpack_tuple cx.ok.handled (isTup_of gg) (by rw [l2, l1]; simp [hys.length]) l3 fun h2 eb => ?_))
          have kk : ∀ b o, h1.get? b = some o → h2.get? b = some o := fun b o e => eb b o (Nat.ne_of_lt (Heap.lt_size e)) e
          have cx2 := cx1.step (Step.grow kk) (cx1.rel.grow kk)
          refine slots_sound (s := { s with heap := h2, toks := tk }) inj hc hb (by simpa using hys) cx2 fun h3 tk3 r3 st3 f3 v3 => ?_
          exact q μ1 .next h3 tk3 r3 (((Step.grow (μ := μ1) kk).toF cx1.frm.ownMu).trans st3) f3 v3 rfl
      | _ => simp only [tupV, hz] at q; exact q.elim
  | _ => exact q.elim

noncomputable def PX (n : Nat) (C : Cf) (W : Nat) (prog : Program) (w : World) (B : Heap) (g : GMap) (sc : Scope) (sm : List (Str × Nat)) (m : MStmt) : Prop :=
  (∀ st, (chkS g sc sm m).S st = true → SX n C W prog w B sc sm m st) ∧ (∀ l, (chkS g sc sm m).Ss l = true → SXs n C W prog w B sc sm m l)

theorem px_of_V {m : MStmt} {f : SV → Bool} (hm : chkS g sc sm m = csV f) (h : ∀ st vw, SVOk st vw → f vw = true → SX n C W prog w B sc sm m st) : PX n C W prog w B g sc sm m := by
  unfold PX; rw [hm]; exact ⟨fun st q => h st _ (sview_ok st) q, fun l q => (Bool.false_ne_true q).elim⟩

theorem comp_of_chk {m : MExpr} {v : Expr} (hc : isComp v = true) (q : (chk g m sc sm).E v = true) : (∃ elt tgt it cond, m = .comp elt tgt it cond) ∨ ∃ a b, m = .compz a b := by
  cases m with
  | comp elt tgt it cond => exact .inl ⟨_, _, _, _, rfl⟩
  | compz a b => exact .inr ⟨_, _, rfl⟩
  | const => obtain ⟨_, _, _, rfl, _⟩ := onConst_elim q; cases hc
  | gconst => obtain ⟨_, _, rfl, _⟩ := onName_elim q; cases hc
  | loc => obtain ⟨_, _, rfl, _⟩ := onName_elim q; cases hc
  | bin => obtain ⟨_, _, _, _, rfl, _⟩ := onBin_elim q; cases hc
  | un => obtain ⟨_, _, _, rfl, _⟩ := onUn_elim q; cases hc
  | and => obtain ⟨_, _, _, rfl, _⟩ := onBool_elim q; cases hc
  | or => obtain ⟨_, _, _, rfl, _⟩ := onBool_elim q; cases hc
  | cmp => obtain ⟨_, _, _, _, rfl, _⟩ := onCmp_elim q; cases hc
  | cmp2 => obtain ⟨_, _, _, _, rfl, _⟩ := onCmp_elim q; cases hc
  | isinst => obtain ⟨_, _, _, _, rfl, _⟩ := onCall_elim q; cases hc
  | call => obtain ⟨_, _, _, _, rfl, _⟩ := onCall_elim q; cases hc
  | bi => obtain ⟨_, _, _, _, rfl, _⟩ := onCall_elim q; cases hc
  | meth => obtain ⟨_, _, _, rfl, _⟩ := onCallX_elim q; cases hc
  | lst => obtain ⟨_, _, rfl, _⟩ := onList_elim q; cases hc
  | tup => obtain ⟨_, _, _, rfl, _⟩ := onTup_elim q; cases hc
  | sub => obtain ⟨_, _, _, rfl, _⟩ := onSub_elim q; cases hc
  | slice => obtain ⟨_, _, _, rfl, _⟩ := onSub_elim q; cases hc
  | attr => obtain ⟨_, _, _, rfl, _⟩ := onAttr_elim q; cases hc
  | mcall => obtain ⟨_, _, _, rfl, _⟩ := onCallX_elim q; cases hc
  | newT => obtain ⟨_, _, _, _, rfl, _⟩ := onCall_elim q; cases hc
  | _ => cases q

theorem allS [sn : Small n] (G : GOk g F B mg mb) (cs : CS n C prog w g F B) (inj : SmOk sm) : ∀ m, PX n C W prog w B g sc sm m := by
  have AE := allE (n := n) (C := C) (prog := prog) (w := w) G cs
  intro m
  induction m with
  | nil =>
    refine ⟨fun st q => (Bool.false_ne_true q).elim, fun l q => ?_⟩
    have : l = [] := List.isEmpty_iff.mp q
    subst this; exact @sx_nil _ _ _ _ _ _ _ _
  | cons a b ia ib =>
    refine ⟨fun st q => (Bool.false_ne_true q).elim, fun l q => ?_⟩
    cases l with
    | nil => exact (Bool.false_ne_true q).elim
    | cons st r =>
      have q : ((chkS g sc sm a).S st && (chkS g sc sm b).Ss r) = true := q
      rw [Bool.and_eq_true] at q
      intro _ _ _ _ _ _ _ _ cx p; exact sx_cons (ia.1 _ q.1) (ib.2 _ q.2) cx p
  | assign i e =>
    refine px_of_V rfl fun st vw o q => ?_
    cases o with
    | assign t v pos =>
      have q : (onName (fun x => stK sc sm x i) t && (chk g e sc sm).E v) = true := q
      rw [Bool.and_eq_true] at q
      obtain ⟨q0, q2⟩ := q
      obtain ⟨x, px, rfl, q1⟩ := onName_elim q0
      have q : stK sc sm x i = true ∧ (chk g e sc sm).E v = true := ⟨q1, q2⟩
      rcases Bool.eq_false_or_eq_true (isComp v) with hc | hc
      · obtain ⟨q1, q2⟩ := q
        -- the value is a comprehension: its parts again
        rcases comp_of_chk hc q2 with ⟨elt, tgt, it, cond, rfl⟩ | ⟨a, b, rfl⟩
        case inr =>
          obtain ⟨e1, tgt, iter, inner, p2, rfl, H⟩ := compz_sc G (AE a) (AE b) q2
          intro _ _ _ _ _ _ _ _ cx p; exact sx_assign_lc inj q1 (fun _ _ => rfl) H cx p
        obtain ⟨e1, gs, sc', p2, rfl, k⟩ := onComp_elim q2
        cases tgt with
        | loc ii =>
          obtain ⟨gn, rfl, k2⟩ := one_elim k
          obtain ⟨tg, iter, ifs, a⟩ := gn
          obtain ⟨x', p3, hx, k3⟩ := onName_elim k2
          simp only at hx
          subst hx
          simp only [Bool.and_eq_true, beq_iff_eq] at k3
          obtain ⟨⟨⟨⟨⟨⟨⟨rfl, t1⟩, t2⟩, t3⟩, t4⟩, t5⟩, t6⟩, t7⟩ := k3
          intro _ _ _ _ _ _ _ _ cx p
          refine sx_assign_lc inj q1 comp_E (sc_comp (.inl sn.lt) (compOk_of t1 t2 t4) ((AE it sc sm).2.2 _ t5) ((AE elt _ _).1 _ t6).1 ?_) cx p
          split at t7
          · rw [isTT_eq t7]; exact test_nil
          · exact test_one ((AE cond _ _).1 _ t7).2.1
          · cases t7
        | _ => cases k
      · intro _ _ _ _ _ _ _ _ cx p; exact sx_assign_plain inj q.1 ((AE e sc sm).1 _ q.2).1 (swaps_false hc) cx p
    | _ => exact (Bool.false_ne_true q).elim
  | asub o i e =>
    refine px_of_V rfl fun st vw w q => ?_
    cases w with
    | assign t v pos =>
      obtain ⟨eo, ei, p2, rfl, q'⟩ := onSub_elim q
      simp only [Bool.and_eq_true, Bool.not_eq_true'] at q'
      intro _ _ _ _ _ _ _ _ cx p; exact sx_asub ((AE e sc sm).1 _ q'.1.1.1).1 ((AE o sc sm).1 _ q'.1.1.2).1 ((AE i sc sm).1 _ q'.1.2).1 cx p
    | _ => exact (Bool.false_ne_true q).elim
  | aattr o k e =>
    refine px_of_V rfl fun st vw w q => ?_
    cases w with
    | assign t v pos =>
      obtain ⟨eo, nm, p2, rfl, q'⟩ := onAttr_elim q
      simp only [Bool.and_eq_true, decide_eq_true_eq, Bool.not_eq_true'] at q'
      obtain ⟨⟨⟨⟨⟨⟨q1, rfl⟩, q2⟩, q3⟩, q4⟩, q5⟩, q6⟩ := q'
      obtain ⟨x, px, rfl, _⟩ := onName_elim q3
      intro _ _ _ _ _ _ _ _ cx p; exact sx_aattr G q1 q2 q6 ((AE e sc sm).1 _ q5).1 ((AE o sc sm).1 _ q4).1 cx p
    | _ => exact (Bool.false_ne_true q).elim
  | wild => exact ⟨fun st q => fun cx p => (show False from p).elim, fun l q => fun cx p => (show False from p).elim⟩
  | atup ts e =>
    refine px_of_V rfl fun st vw w q => ?_
    cases w with
    | assign t v pos =>
      obtain ⟨l, c, p2, rfl, q'⟩ := onTup_elim q
      simp only [Bool.and_eq_true, Bool.not_eq_true'] at q'
      intro _ _ _ _ _ _ _ _ cx p; exact sx_atup inj q'.1.1.1 q'.1.2 q'.2 ((AE e sc sm).1 _ q'.1.1.2).1 cx p
    | _ => exact (Bool.false_ne_true q).elim
  | expr e =>
    refine px_of_V rfl fun st vw w q => ?_
    cases w with
    | expr v pos =>
      have q : ((chk g e sc sm).E v && !isComp v) = true := q
      simp only [Bool.and_eq_true, Bool.not_eq_true'] at q
      intro _ _ _ _ _ _ _ _ cx p; exact sx_expr q.2 ((AE e sc sm).1 _ q.1).1 cx p
    | _ => exact (Bool.false_ne_true q).elim
  | ifs c t e it ie =>
    refine px_of_V rfl fun st vw w q => ?_
    cases w with
    | ifs x y z pos =>
      have q : ((chk g c sc sm).E x && (chkS g sc sm t).Ss y && (chkS g sc sm e).Ss z) = true := q
      simp only [Bool.and_eq_true] at q
      intro _ _ _ _ _ _ _ _ cx p; exact sx_if ((AE c sc sm).1 _ q.1.1).2.1 (it.2 _ q.1.2) (ie.2 _ q.2) cx p
    | _ => exact (Bool.false_ne_true q).elim
  | fors tgt it b ib =>
    refine px_of_V rfl fun st vw w q => ?_
    cases w with
    | fors x y z pos =>
      have q : (chkTgt sc sm tgt x && (chk g it sc sm).I y && (chkS g sc sm b).Ss z) = true := q
      simp only [Bool.and_eq_true] at q
      obtain ⟨⟨q1, q2⟩, q3⟩ := q
      cases tgt with
      | loc i =>
        obtain ⟨x, px, rfl, q1⟩ := onName_elim q1
        intro _ _ _ _ _ _ _ _ cx p; exact sx_for inj q1 ((AE it sc sm).2.2 _ q2) (ib.2 _ q3) cx p
      | _ => exact (Bool.false_ne_true q1).elim
    | _ => exact (Bool.false_ne_true q).elim
  | whiles c b ib =>
    refine px_of_V rfl fun st vw w q => ?_
    cases w with
    | whiles x y pos =>
      have q : ((chk g c sc sm).E x && (chkS g sc sm b).Ss y) = true := q
      simp only [Bool.and_eq_true] at q
      intro _ _ _ _ _ _ _ _ cx p; exact sx_while ((AE c sc sm).1 _ q.1).2.1 (ib.2 _ q.2) cx p
    | _ => exact (Bool.false_ne_true q).elim
  | ret e =>
    refine px_of_V rfl fun st vw w q => ?_
    cases w with
    | ret v pos =>
      cases v with
      | some v => intro _ _ _ _ _ _ _ _ cx p; exact sx_ret ((AE e sc sm).1 _ q).1 cx p
      | none => rw [isNC_eq q]; intro _ _ _ _ _ _ _ _ cx p; exact sx_ret0 cx p
    | _ => exact (Bool.false_ne_true q).elim
  | raise c =>
    refine px_of_V rfl fun st vw w q => ?_
    cases w with
    | raise e pos =>
      obtain ⟨x, np, es, cp, rfl, q'⟩ := onCall_elim q
      rw [Bool.and_eq_true] at q'
      obtain ⟨y, rfl, q2⟩ := one_elim q'.2
      obtain ⟨cc, k, p1, rfl, q3⟩ := onConst_elim q2
      cases cc with
      | str t => intro _ _ _ _ _ _ _ _ cx p; exact sx_raise G q'.1 cx p
      | _ => exact (Bool.false_ne_true q3).elim
    | _ => exact (Bool.false_ne_true q).elim
  | tryx b hs ib =>
    refine px_of_V rfl fun st vw w q => ?_
    cases w with
    | tryx y hl pos =>
      have q : (noAsg b && (chkS g sc sm b).Ss y && (!hs.isEmpty && chkH g sc sm hs hl)) = true := q
      have q1 := and_left (and_left q)
      have q2 := and_right (and_left q)
      have q3 := and_right q
      intro _ _ _ _ _ _ _ _ cx p; exact sx_try G ((allP G cs b q1).2 _ q2) (and_left q3) (and_right q3) cx p
    | _ => exact (Bool.false_ne_true q).elim
  | tryk b k w' ib =>
    refine px_of_V rfl fun st vw w q => ?_
    cases w with
    | tryx y hl pos =>
      have q : (noAsg b && (chkS g sc sm b).Ss y && one (chkK g sc sm k w') hl) = true := q
      have q1 := and_left (and_left q)
      have q2 := and_right (and_left q)
      obtain ⟨hd, rfl, q3⟩ := one_elim (and_right q)
      intro _ _ _ _ _ _ _ _ cx p; exact sx_tryk G ((allP G cs b q1).2 _ q2) q3 cx p
    | _ => exact (Bool.false_ne_true q).elim

end
end Mine


-- part MiniFun
set_option maxRecDepth 4000
set_option linter.unusedVariables false
set_option linter.unusedSimpArgs false
namespace Mine
open PySem

section
variable {W : Nat} {prog : Program} {w : World} {B : Heap} {g : GMap} {F : Nat → Option MFun} {mg mb : Str → Option Value}

theorem callN_sound (G : GOk g F B mg mb) : ∀ k, k < 1000 → CS k (callN F W k) prog w g F B
  | 0 => fun _ f a vs ws μ σ s A X Q fa ok rel hfr hfo hv p => (show False from p).elim
  | k + 1 => fun hk f a vs ws μ σ s A X Q fa ok rel hfr hfo hv p => by
    haveI : Small k := ⟨by omega⟩
    obtain ⟨o, fd, body, names, d, ho, hd, hcd, hb, hcl, hgl, hbl, hdf, hF, hchk⟩ := fa
    unfold chkFun at hchk
    simp only [Bool.and_eq_true, List.isEmpty_iff, Option.isNone_iff_eq_none, decide_eq_true_eq, beq_iff_eq] at hchk
    obtain ⟨⟨⟨⟨⟨⟨⟨⟨⟨⟨⟨⟨⟨⟨⟨⟨c1, c2⟩, c3⟩, c4⟩, c5⟩, c6⟩, c7⟩, c8⟩, c9⟩, c10⟩, c11⟩, c12⟩, c13⟩, c14⟩, c15⟩, c16⟩, c17⟩ := hchk
    rw [List.all_eq_true] at c14 c15
    have p : Post B X VRel μ s Q (match F f with
      | some d => if vs.length = d.np then (exec (callN F W k) W d.body (vs.map some ++ List.replicate (d.ns - d.np) none) σ).bind fun p h => (match p.1 with | .ret v => .ok v h | .next => .ok .none h) else .stuck
      | none => .stuck) := p
    rw [hF] at p
    simp only at p
    by_cases hlen : vs.length = d.np
    · rw [if_pos hlen] at p
      have wl : ws.length = (names.take d.np).length := by rw [hv.length, hlen, List.length_take]; omega
      have nd : (names.take d.np).Nodup := c8.sublist (List.take_sublist _ _)
      have hbind : bindArgs fd ⟨ws, []⟩ = pure ((names.take d.np).zip ws) := bindArgs_plain c1 c2 c3 c4 hdf c7 nd wl
      have hmap : ((names.take d.np).zip ws).map (·.1) = names.take d.np := List.map_fst_zip (by omega)
      have lok : ∀ x ∈ names, fd.scope.names.lookup x = some .local ∨ fd.scope.names.lookup x = some .cell := fun x hx => by
        have := c14 x hx; simpa using this
      have hroom : A.depth < recursionLimit := by have := ok.depth; show _ < 1000; omega
      refine codeAny_call_cells hroom (rel.base _ _ ho) hd (G.lim.keeps fun b o e => rel.base b o e) (hcd.keeps fun b o e => rel.base b o e) hb hbind hcl (fun x hx => ?_) (fun s₁ ic => ?_) c13 c12 c11
      · have hm : x.1 ∈ names := List.mem_of_mem_take (by rw [← hmap]; exact List.mem_map_of_mem hx)
        rcases lok _ hm with q | q
        · exact .inl q
        · obtain ⟨c, hc⟩ := cellsFrom_has (x := x.1) fd.scope.names (s.heap.objs.size + 1) [] (.inl (mem_of_lookup q))
          exact .inr ⟨q, by rw [hc]; rfl⟩
      · obtain ⟨h₁, tk, rfl, kk⟩ := ic.done
        have hns := ic.toInCall.ns
        have hloc : (callEnvC fd s.heap.objs.size a).locals = s.heap.objs.size := rfl
        have hsc : (callEnvC fd s.heap.objs.size a).scope = fd.scope := rfl
        rw [hloc] at hns
        have r₁ : HRel B μ σ h₁ := rel.grow kk
        have above : ∀ x c, (callEnvC fd s.heap.objs.size a).cells.lookup x = some c → s.heap.objs.size < c := fun x c q => ic.above x c (mem_of_lookup q)
        have none_of : ∀ c, s.heap.objs.size ≤ c → s.heap.get? c = none := fun c hc => by
          cases e : s.heap.get? c with
          | none => rfl
          | some o => exact absurd (Heap.lt_size e) (Nat.not_lt.mpr hc)
        have notMem : ∀ c, s.heap.objs.size ≤ c → c ∉ μ := fun c hc q => by
          obtain ⟨o, g⟩ := rel.alive q; rw [none_of c hc] at g; cases g
        have noB : ∀ c, s.heap.objs.size ≤ c → B.get? c = none := fun c hc => by
          cases q : B.get? c with
          | none => rfl
          | some o => have := rel.base c o q; rw [none_of c hc] at this; cases this
        have frm : Frm B (callEnvC fd s.heap.objs.size a) μ h₁ := by
          refine ⟨c11, hgl, hbl, ⟨_, hns⟩, notMem _ (Nat.le_refl _), noB _ (Nat.le_refl _), fun x c q => ?_, fun x y c q q' => pair_inj ic.apart (mem_of_lookup q) (mem_of_lookup q'), fun x q => ?_⟩
          · have lt := above x c q
            exact ⟨⟨_, ic.cell x c q⟩, Ne.symm (Nat.ne_of_lt lt), notMem c (Nat.le_of_lt lt), noB c (Nat.le_of_lt lt)⟩
          · rcases q with q | q
            · exact cellsFrom_has fd.scope.names (s.heap.objs.size + 1) [] (.inl (mem_of_lookup q))
            · have := c15 _ (mem_of_lookup (show fd.scope.names.lookup x = some .free from q)); simp at this
        have vars : Vars (callEnvC fd s.heap.objs.size a) names.zipIdx (vs.map some ++ List.replicate (d.ns - d.np) none) μ h₁ := by
          intro x i v hx hi he
          have hlt : i < vs.length := by
            rcases Nat.lt_or_ge i vs.length with q | q
            · exact q
            · rw [List.getElem?_append_right (by simpa using q)] at he
              have := List.mem_of_getElem? he
              rw [List.mem_replicate] at this; cases this.2
          rw [List.getElem?_append_left (by simpa using hlt), List.getElem?_map] at he
          have hvi : vs[i]? = some v := by
            cases q : vs[i]? with
            | none => rw [q] at he; cases he
            | some u => rw [q] at he; simp at he; rw [he]
          obtain ⟨u, hu, ru⟩ := hv.get hvi
          have hxi := (zipIdx_lookup names 0 hi).2
          rw [Nat.sub_zero] at hxi
          have hmem : (x, u) ∈ (names.take d.np).zip ws := by
            have hx2 : (names.take d.np)[i]? = some x := by rw [List.getElem?_take, if_pos (by omega)]; exact hxi
            refine List.mem_of_getElem? (i := i) ?_
            rw [List.getElem?_zip_eq_some]; exact ⟨hx2, hu⟩
          have ndm : (((names.take d.np).zip ws).map (·.1)).Nodup := by rw [hmap]; exact nd
          rcases lok x (List.mem_of_getElem? hxi) with q | q
          · exact ⟨u, .inl ⟨q, _, hns, bindL_get q _ _ ndm hmem⟩, ru⟩
          · obtain ⟨c, hc⟩ := cellsFrom_has fd.scope.names (s.heap.objs.size + 1) [] (.inl (mem_of_lookup q))
            refine ⟨u, .inr ⟨.inl q, c, hc, ?_⟩, ru⟩
            have := ic.cell x c hc
            rw [bindC_get (show (callEnvC fd s.heap.objs.size a).kindOf x ≠ some .local by show fd.scope.names.lookup x ≠ _; rw [q]; simp) _ _ ndm hmem] at this
            exact this
        have hfk : FrOk B X.l μ h₁ := fun e he => by
          obtain ⟨h1, L, h2, h3, h4, m, h5⟩ := hfo e he
          exact ⟨h1, L, h2, h3, h4, m, Ns_at h5 fun o e => kk _ o e⟩
        have cx : Cx k B ⟨callEnvC fd s.heap.objs.size a :: X.l, fun e s' => wpAny (model prog w) (A.deeper (callEnvC fd s.heap.objs.size a)) (leaving (callEnvC fd s.heap.objs.size a) e) (fun _ s'' => X.E e s'') (fun e' s'' => X.E e' s'') s'⟩ (A.deeper (callEnvC fd s.heap.objs.size a)) (callEnvC fd s.heap.objs.size a) fd.scope names.zipIdx (vs.map some ++ List.replicate (d.ns - d.np) none) μ σ h₁ :=
          ⟨rfl, ⟨fun _ => ok.handled, fun _ => by have := ok.depth; show A.depth + 1 + 2 * k + 1 < 900; omega, by have := ok.units; show A.units + 3 + 20 * (k % 1000) + 110 < 9900; omega⟩, frm, vars, r₁, Around.frames_deeper hfr, fun e he => by
            rcases List.mem_cons.mp he with rfl | he
            · exact ⟨by rw [show (callEnvC fd s.heap.objs.size a).scope.kind = .function from c11]; simp, s.heap.objs.size, rfl, frm.locMu, frm.locB, _, hns⟩
            · exact hfk e he, ⟨_, _, rfl, rfl⟩, fun e he L hL x q => by
            have lt := above x L q
            rcases List.mem_cons.mp he with rfl | he
            · cases hL; exact absurd lt (Nat.lt_irrefl _)
            · obtain ⟨_, L', h2, _, _, m, h5⟩ := hfo e he
              rw [hL] at h2; cases h2
              obtain ⟨o, eo⟩ := Ns_alive h5
              rw [none_of L (Nat.le_of_lt lt)] at eo; exact (nomatch eo), HdOk.none ok.handled⟩
        have own : ∀ b, Own (callEnvC fd s.heap.objs.size a) b → s.heap.objs.size ≤ b := fun b q => by
          rcases q with rfl | ⟨x, q⟩
          · exact Nat.le_refl _
          · exact Nat.le_of_lt (above x b q)
        refine (allS (W := W) G (callN_sound G k (by omega)) (smOk_zip names) d.body).2 body c17 (s := { s with heap := h₁, toks := tk }) cx ?_
        cases q : exec (callN F W k) W d.body (vs.map some ++ List.replicate (d.ns - d.np) none) σ with
        | exc c h =>
          rw [q] at p
          have p : PostX B X μ s c h := p
          intro μ' h' tk' e base r st x
          exact fly_leave (s := { s with heap := h', toks := tk' }) (Around.frames_deeper hfr) x fun h'' x2 up => p μ' h'' tk' e base r (StepX.hop ⟨⟨st.pre, fun b o n e => st.keep b o n (fun z => by obtain ⟨o2, e2, _⟩ := look_elim e; rw [none_of b (own b z)] at e2; cases e2) (look_keep (kk b) e), fun b x y => by
            cases e : s.heap.get? b with
            | none => rfl
            | some o => have := st.fresh b x y; rw [kk b o e] at this; cases this⟩, fun b o n e nd => st.based b o n (fun z => by obtain ⟨o2, e2, _⟩ := look_elim e; rw [none_of b (own b z)] at e2; cases e2) (look_keep (kk b) e) nd⟩ x.1 x2.1 up) x2
        | stuck => rw [q] at p; exact p.elim
        | ok pr σ' =>
          rw [q] at p
          simp only [Res.bind_ok] at p
          intro μ' fl h' tk' r' st' _ _ hf
          have st : Step μ μ' s.heap h' := ⟨st'.pre, fun b o n e => st'.keep b o n (fun z => by obtain ⟨o2, e2, _⟩ := look_elim e; rw [none_of b (own b z)] at e2; cases e2) (look_keep (kk b) e), fun b x y => by
            cases e : s.heap.get? b with
            | none => rfl
            | some o => have := st'.fresh b x y; rw [kk b o e] at this; cases this⟩
          cases q2 : pr.1 with
          | next =>
            rw [q2] at p hf
            rw [show fl = .next from hf]
            exact p μ' .none h' tk' r' st rfl
          | ret v =>
            rw [q2] at p hf
            obtain ⟨u, rfl, hu⟩ := hf
            exact p μ' u h' tk' r' st hu
    · rw [if_neg hlen] at p; exact p.elim

end
end Mine


-- part MiniTop
set_option maxRecDepth 4000
set_option linter.unusedVariables false
set_option linter.unusedSimpArgs false
namespace Mine
open PySem PySem.W PyProof.Rows

noncomputable def bootT : List (Str × GI) := [(Str.ofString "len", .bi "len"), (Str.ofString "sum", .bi "sum"), (Str.ofString "min", .bi "min"), (Str.ofString "max", .bi "max"), (Str.ofString "all", .bi "all"),
  (Str.ofString "int", .ty "int"), (Str.ofString "str", .ty "str"), (Str.ofString "list", .ty "list"), (Str.ofString "tuple", .ty "tuple"), (Str.ofString "bool", .ty "bool"), (Str.ofString "range", .ty "range"), (Str.ofString "isinstance", .bi "isinstance"), (Str.ofString "ValueError", .ty "ValueError"), (Str.ofString "zip", .ty "zip")]
noncomputable def bootSays (x : Str) : GI → Prop
  | .ty T => bootBuiltins x = some (.type T)
  | .bi T => bootBuiltins x = some (.builtin T)
  | _ => False
theorem bootT_ok : ∀ q ∈ bootT, bootSays q.1 q.2 := by
  simp only [bootT, List.forall_mem_cons]
  exact ⟨Boot.«len», Boot.«sum», Boot.«min», Boot.«max», Boot.«all», Boot.«int», Boot.«str», Boot.«list», Boot.«tuple», Boot.«bool», Boot.«range», Boot.«isinstance», Boot.«ValueError», Boot.«zip», fun _ h => nomatch h⟩
noncomputable def bootNm : List Str := bootT.map (·.1)

noncomputable def constOk : Val → PyData → Bool
  | .int i, .int j => decide (i = j)
  | .str s, .str t => decide (t = ⟨s.toArray⟩) && decide (s.length ≤ lim)
  | _, _ => false
theorem const_rel {v : Val} {d : PyData} {h : Heap} {u : Value} (e : constOk v d = true) (r : Reads h u d []) : VRel [] v u := by
  cases v with
  | int i =>
    cases d with
    | int j =>
      have e := of_decide_eq_true e
      subst e; cases r; exact ⟨_, rfl⟩
    | _ => exact (Bool.false_ne_true e).elim
  | str i =>
    cases d with
    | str j =>
      have e : (decide (j = ⟨i.toArray⟩) && decide (i.length ≤ lim)) = true := e
      rw [Bool.and_eq_true] at e
      have e1 := of_decide_eq_true e.1
      have e2 := of_decide_eq_true e.2
      subst e1; cases r; exact ⟨e2, _, rfl⟩
    | _ => exact (Bool.false_ne_true e).elim
  | _ => exact (Bool.false_ne_true e).elim

/-- the classes of exceptions, seen behind the top -/
noncomputable def exOk (cs : List Nat) (s : Shared) : Bool := (0 :: cs).all fun c => decide (c < 9) && s.heap.ownExcOk (clsName c) (if c = 0 then [] else [clsName 0]) bmVE "ValueError.__new__" && (match s.heap.clsAt mainGlobals (clsName c) with | some x => decide (x.2.2.name = clsName c) && exQuiet.all (fun n => (s.heap.nsMap x.2.2.ns n).isNone) | none => false)
noncomputable def ExSays (cs : List Nat) (h : Heap) : Prop := ∀ c ∈ 0 :: cs, h.nsMap mainGlobals (clsName c) = some (.ref (clsK h c)) ∧ ExcCls h c
theorem exSays_of {cs : List Nat} {s : Shared} (e : exOk cs s = true) : ExSays cs s.heap := by
  have ea := List.all_eq_true.mp e
  have one : ∀ c ∈ 0 :: cs, c < 9 ∧ s.heap.ownExcOk (clsName c) (if c = 0 then [] else [clsName 0]) bmVE "ValueError.__new__" = true ∧ ∃ o cd, s.heap.nsMap mainGlobals (clsName c) = some (.ref (clsK s.heap c)) ∧ s.heap.get? (clsK s.heap c) = some o ∧ o.data = .cls cd ∧ cd.name = clsName c ∧ ∀ n ∈ exQuiet, s.heap.nsMap cd.ns n = none := fun c hc => by
    have := ea c hc
    rw [Bool.and_eq_true, Bool.and_eq_true] at this
    obtain ⟨⟨t1, t2⟩, t3⟩ := this
    refine ⟨of_decide_eq_true t1, t2, ?_⟩
    split at t3
    · rename_i x hx
      obtain ⟨C, o, cd⟩ := x
      obtain ⟨n1, n2, n3⟩ := Heap.clsAt_spec hx
      have hK : clsK s.heap c = C := by unfold clsK; rw [n1]
      rw [hK]
      rw [Bool.and_eq_true] at t3
      exact ⟨o, cd, n1, n2, n3, of_decide_eq_true t3.1, fun n hn => Option.isNone_iff_eq_none.mp (List.all_eq_true.mp t3.2 n hn)⟩
    · cases t3
  obtain ⟨_, t0, o0, cd0, m1, m2, m3, m4, m5⟩ := one 0 (.head _)
  intro c hc
  obtain ⟨l, t, o, cd, n1, n2, n3, n4, n5⟩ := one c hc
  have base0 : ∃ c0 dd sl cd m0, s.heap.get? (clsK s.heap 0) = some { cls := c0, dict := dd, data := .cls cd, slots := sl } ∧ cd.name = clsName 0 ∧ s.heap.Ns cd.ns m0 ∧ ∀ n ∈ exQuiet, m0 n = none := by
    obtain ⟨C, N, nm, q, bs, hdct, sn, sub, ab, col, dd, k0, k1, k2, k3, k5, e1, e2, e3, e4⟩ := Heap.ownExc_of_ok t0
    rw [m1] at e1; cases e1
    rw [e2] at m2; cases m2; cases m3
    exact ⟨_, _, _, _, _, e2, m4, e3, m5⟩
  refine ⟨n1, l, base0, ?_⟩
  obtain ⟨C, N, nm, q, bs, hdct, sn, sub, ab, col, dd, k0, k1, k2, k3, k5, e1, e2, e3, e4⟩ := Heap.ownExc_of_ok t
  rw [n1] at e1
  cases e1
  have ht : ((if c = 0 then [] else [clsName 0]).map fun n => (s.heap.nsMap mainGlobals n).getD .none) ++ bmVE = tlK s.heap c := by
    unfold tlK
    by_cases z : c = 0
    · rw [if_pos z, if_pos z]; rfl
    · rw [if_neg z, if_neg z, List.map_cons, List.map_nil, m1]; rfl
  have hnm : nm = clsName c ∧ ∀ n ∈ exQuiet, s.heap.nsMap N n = none := by
    rw [e2] at n2; cases n2; cases n3; exact ⟨n4, n5⟩
  obtain ⟨hnm, hqn⟩ := hnm
  have hT : OwnTail s.heap bmVE (((if c = 0 then [] else [clsName 0]).map fun n => (s.heap.nsMap mainGlobals n).getD .none) ++ bmVE) := OwnTail.of_chain _ fun n hn => by
    by_cases z : c = 0
    · rw [if_pos z] at hn; cases hn
    · rw [if_neg z] at hn; rw [List.mem_singleton.mp hn]; exact ⟨_, _, _, (one 0 (.head _)).2.1⟩
  rw [ht] at e2 hT
  subst hnm
  exact ⟨N, q, bs, hdct, sn, sub, ab, col, dd, k0, k1, k2, k3, k5, _, e2, e3, hqn, hT⟩
theorem exSays_keeps {cs : List Nat} {h h' : Heap} (y : ExSays cs h) (k : ∀ b o, h.get? b = some o → h'.get? b = some o) : ExSays cs h' := by
  have nm : ∀ c ∈ 0 :: cs, h'.nsMap mainGlobals = h.nsMap mainGlobals := fun c hc => by
    have := (y c hc).1
    funext x
    cases e : h.get? mainGlobals with
    | none => unfold Heap.nsMap at this; rw [e] at this; cases this
    | some o => unfold Heap.nsMap; rw [k _ _ e, e]
  have hm := nm 0 (.head _)
  have hK : ∀ c, clsK h' c = clsK h c := fun c => by unfold clsK; rw [hm]
  have ht : ∀ c, tlK h' c = tlK h c := fun c => by unfold tlK; rw [hK 0]
  intro c hc
  obtain ⟨y1, l, ⟨c0, dd0, sl0, cd0, m0, y2, y3, y4, y5⟩, N, q, bs, hdct, sn, sub, ab, col, dd, k0, k1, k2, k3, k5, mN, z1, z2, z3, z4⟩ := y c hc
  rw [hm, hK]
  refine ⟨y1, l, ⟨c0, dd0, sl0, cd0, m0, by rw [hK]; exact k _ _ y2, y3, Ns_at y4 fun o e => k _ o e, y5⟩, N, q, bs, hdct, sn, sub, ab, col, dd, k0, k1, k2, k3, k5, mN, ?_, Ns_at z2 fun o e => k _ o e, z3, ?_⟩
  · rw [hK, ht]; exact k _ _ z1
  · rw [ht]; exact z4.keeps k
noncomputable def exHook (cs : List Nat) : Hook := ⟨Bool, exOk cs, fun _ => true, fun _ h => ExSays cs h, fun _ _ e => exSays_of e, fun _ _ _ y k => exSays_keeps y k⟩

theorem methKey_inj {x y : Str} (h : methKey x = methKey y) : x = y := by
  unfold methKey at h
  have h : Str.append ("Table." : Str) x = Str.append ("Table." : Str) y := h
  unfold Str.append at h
  obtain ⟨x⟩ := x
  obtain ⟨y⟩ := y
  simp only [Str.mk.injEq] at h
  have := congrArg Array.toList h
  simp only [Array.toList_append] at this
  have := List.append_cancel_left this
  exact congrArg Str.mk (Array.toList_inj.mp this)
noncomputable def tabOf (p : Program) (loose : List Str) : Option ClsRec := (plainsOf p loose).find? fun c => c.name == tabNm
noncomputable def chkM (c : ClsRec) (nm : Nat → List Str) (F : Nat → Option MFun) (g : GMap) (x : Str) (f : Nat) : Bool := match c.meths.find? (fun m => m.name == x), F f with
  | some m, some d => chkFun g (nm f) m.params m.scope m.body d
  | _, _ => false
noncomputable def chkG (cs : List Nat) (p : Program) (loose : List Str) (nm : Nat → List Str) (F : Nat → Option MFun) (g : GMap) : Bool := g.all fun q => match q.2 with
  | .fn f => (match (recsOf p).find? (fun d => d.name == q.1), F f with
    | some d, some m => chkFun g (nm f) d.params d.scope d.body m
    | _, _ => false)
  | .const v => (match valOf p q.1 with | some d => constOk v d | none => false)
  | .cls c => decide (q.1 = clsName c) && cs.contains c
  | .tab f => decide (q.1 = tabNm) && (match tabOf p loose with
    | some c => chkM c nm F g "__init__" f && (["__getattribute__", "__getattr__", "__setattr__", attrName 0, attrName 1, attrName 2] : List Str).all fun x => c.withCmp.quiet.contains x
    | none => false)
  | .meth f => (match tabOf p loose with
    | some c => c.meths.any fun m => decide (q.1 = methKey m.name) && chkM c nm F g m.name f
    | none => false)
  | .kinds => (match (recsOf p).find? (fun d => d.name == q.1) with | some d => chkKd g "_law_error" "_law_found" d.params d.scope d.body | none => false)
  | i => bootT.lookup q.1 == some i && (q.1 == ("__name__" : Str)) == false && !startupNames.contains q.1 && !loose.contains q.1 && !((recsOf p).map (·.name)).contains q.1 && !((litsOf p).map (·.1)).contains q.1 && !((clssOf p loose).map (·.name)).contains q.1

theorem gok_of {p : Program} {loose : List Str} {mean : ExcName → Option Value} {mg mb : Str → Option Value} {h : Heap} {nm : Nat → List Str} {F : Nat → Option MFun} {g : GMap} {cs : List Nat}
    (T : Top p loose mean mg mb h) (e : chkG cs p loose nm F g = true) (Y : ExSays cs h) (TE : TopE p loose mg h) : GOk g F h mg mb := by
  unfold chkG at e
  rw [List.all_eq_true] at e
  refine ⟨T.g, T.b, T.nolimit, fun x f q => ?_, fun x v q => ?_, fun x t q => ?_, fun x t q => ?_, fun x c q => ?_, fun f q => ?_, fun x q => ?_⟩
  · have := e _ (mem_of_lookup q)
    simp only at this
    split at this
    · rename_i d m hd hm
      have hmem := List.mem_of_find?_eq_some hd
      have hname := List.find?_some hd
      simp only [beq_iff_eq] at hname
      obtain ⟨a, o, pm, code, doc, h1, h2, h3, h4⟩ := T.fn d hmem
      exact ⟨a, by rw [← hname]; exact h1, o, _, d.body, nm f, m, h2, h3, h4, rfl, rfl, rfl, rfl, rfl, hm, this⟩
    · cases this
  · have := e _ (mem_of_lookup q)
    simp only at this
    split at this
    · rename_i d hd
      obtain ⟨u, h1, h2⟩ := T.const x d hd
      exact ⟨u, h1, const_rel this (h2 h)⟩
    · cases this
  · have := e _ (mem_of_lookup q)
    simp only [Bool.and_eq_true, beq_iff_eq, Bool.not_eq_true', List.contains_eq_mem, decide_eq_false_iff_not, beq_eq_false_iff_ne, ne_eq] at this
    obtain ⟨⟨⟨⟨⟨⟨t1, t2⟩, t3⟩, t4⟩, t5⟩, t6⟩, t7⟩ := this
    exact ⟨T.free x t3 t4 t5 t6 t7, by rw [T.builtins x t2]; exact bootT_ok _ (mem_of_lookup t1)⟩
  · have := e _ (mem_of_lookup q)
    simp only [Bool.and_eq_true, beq_iff_eq, Bool.not_eq_true', List.contains_eq_mem, decide_eq_false_iff_not, beq_eq_false_iff_ne, ne_eq] at this
    obtain ⟨⟨⟨⟨⟨⟨t1, t2⟩, t3⟩, t4⟩, t5⟩, t6⟩, t7⟩ := this
    exact ⟨T.free x t3 t4 t5 t6 t7, by rw [T.builtins x t2]; exact bootT_ok _ (mem_of_lookup t1)⟩
  · have := e _ (mem_of_lookup q)
    have this : (decide (x = clsName c) && cs.contains c) = true := this
    rw [Bool.and_eq_true] at this
    have hx := of_decide_eq_true this.1
    subst hx
    obtain ⟨y1, y2⟩ := Y c (.tail _ (List.contains_iff_mem.mp this.2))
    exact ⟨by rw [T.g.eq_nsMap]; exact y1, y2⟩
  · have := e _ (mem_of_lookup q)
    have this : (decide (tabNm = tabNm) && (match tabOf p loose with
      | some c => chkM c nm F g "__init__" f && (["__getattribute__", "__getattr__", "__setattr__", attrName 0, attrName 1, attrName 2] : List Str).all fun x => c.withCmp.quiet.contains x
      | none => false)) = true := this
    have this := and_right this
    cases hc : tabOf p loose with
    | none => rw [hc] at this; cases this
    | some c =>
      rw [hc] at this
      have hmem := List.mem_of_find?_eq_some hc
      have hname := List.find?_some hc
      simp only [beq_iff_eq] at hname
      obtain ⟨C, N, mN, h1, P⟩ := TE c hmem
      rw [hname] at h1
      have hK : tabK h = C := by
        unfold tabK
        have : h.nsMap mainGlobals "Table" = some (.ref C) := by rw [← T.g.eq_nsMap]; exact h1
        rw [this]
      have quiet : ∀ x, x ∈ (["__getattribute__", "__getattr__", "__setattr__", attrName 0, attrName 1, attrName 2] : List Str) → mN x = none := fun x hx => P.quiet x (List.contains_iff_mem.mp (List.all_eq_true.mp (and_right this) x hx))
      have meth : ∀ x f', chkM c nm F g x f' = true → ∃ a o, mN x = some (.ref a) ∧ h.get? a = some o ∧ o.cls = .type "function" ∧ FnAt g F h f' a := fun x f' hx => by
        unfold chkM at hx
        split at hx
        · rename_i m d hm hd
          have m1 := List.mem_of_find?_eq_some hm
          have m2 := List.find?_some hm
          simp only [beq_iff_eq] at m2
          obtain ⟨a, o, pm, cd, doc, n1, n2, n3, n4, n5⟩ := P.meths m m1
          exact ⟨a, o, by rw [← m2]; exact n1, n2, n3, o, _, m.body, nm f', d, n2, n4, n5, rfl, rfl, rfl, rfl, rfl, hd, hx⟩
        · cases hx
      refine ⟨by rw [hK]; exact h1, N, mN, hK ▸ P.cls, meth _ _ (and_left this), quiet _ (by simp), quiet _ (by simp), quiet _ (by simp), fun k hk => quiet _ (by
        have : k = 0 ∨ k = 1 ∨ k = 2 := by omega
        rcases this with rfl | rfl | rfl <;> simp), fun x f' hx => ?_⟩
      have t2 := e _ (mem_of_lookup hx)
      have t2 : (match tabOf p loose with | some c => c.meths.any fun m => decide (methKey x = methKey m.name) && chkM c nm F g m.name f' | none => false) = true := t2
      rw [hc] at t2
      obtain ⟨m, _, hm⟩ := List.any_eq_true.mp t2
      have hx' : x = m.name := methKey_inj (of_decide_eq_true (and_left hm))
      rw [hx']
      exact meth _ _ (and_right hm)
  · have := e _ (mem_of_lookup q)
    have this : (match (recsOf p).find? (fun d => d.name == x) with | some d => chkKd g "_law_error" "_law_found" d.params d.scope d.body | none => false) = true := this
    cases hd : (recsOf p).find? (fun d => d.name == x) with
    | none => rw [hd] at this; cases this
    | some d =>
      rw [hd] at this
      have hmem := List.mem_of_find?_eq_some hd
      have hname := List.find?_some hd
      simp only [beq_iff_eq] at hname
      obtain ⟨a, o, pm, code, doc, h1, h2, h3, h4⟩ := T.fn d hmem
      exact ⟨a, by rw [← hname]; exact h1, o, _, d.body, _, _, h2, h3, h4, rfl, rfl, rfl, rfl, rfl, this⟩

theorem ints_rel {P : Params} {h : Heap} {a : Addr} : ∀ {vs : List Value} {xs : List Int}, WellAll P h vs (ofPys (xs.map PyData.int)) → VsRel [a] (xs.map .int) vs
  | vs, [], w => by cases w; rfl
  | vs, x :: xs, w => by
    cases w with
    | cons h1 h2 => cases h1; exact ⟨_, _, rfl, ⟨_, rfl⟩, ints_rel h2⟩

theorem law_ends {p prog : Program} {w : World} {loose : List Str} {mean mean' : ExcName → Option Value} {cl : Str → Option Addr} {mg mb : Str → Option Value} {nm : Nat → List Str} {F : Nat → Option MFun} {g : GMap} {s₁ : Shared} {fa a : Addr} {xs : List Int} {c : ClaimW} {args : List WData} {W k f : Nat} {h : MH} {cs : List Nat}
    (T : Top p loose mean mg mb s₁.heap) (e : chkG cs p loose nm F g = true) (Y : ExSays cs s₁.heap) (TE : TopE p loose mg s₁.heap) (hg : s₁.gens = #[]) (hf : g.lookup (Str.ofString "law") = some (.fn f)) (hmg : mg (Str.ofString "law") = some (.ref fa))
    (wl : Well w.params s₁.heap (.ref a) (ofPy (.list (xs.map PyData.int)))) (hk : k < 200) (hl : xs.length ≤ 63)
    (run : callN F W k f [.ref 0] [.ro (xs.map .int)] = .ok (.bool true) h)
    (hn : ∀ cls, c.raises args cls = false) (hp : c.post args (.bool true) args = true) :
    codeAny (model prog w) callerA (.call (.ref fa) { pos := [.ref a] }) (GoodWG c cl mean' args s₁) s₁ := by
  have G := gok_of T e Y TE
  obtain ⟨fa', q1, q2⟩ := G.fn _ _ hf
  rw [hmg] at q1
  cases q1
  cases wl with
  | list ho hw =>
    rename_i vs
    have rel : HRel s₁.heap [a] [.ro (xs.map .int)] s₁.heap := by
      refine ⟨rfl, ?_, fun _ _ e => e, ?_, ?_, ?_⟩
      · intro i j b h1 h2
        cases i <;> cases j <;> simp at h1 h2 ⊢
      · intro i b o h1 h2
        cases i with
        | zero =>
          simp at h1 h2; subst h1 h2
          exact ⟨by simp [lim]; omega, vs, _, ho, ints_rel hw⟩
        | succ i => simp at h1
      · intro i b o h1 h2 h3
        cases i with
        | zero => simp at h1 h2; subst h1 h2; cases h3
        | succ i => simp at h1
      · intro i b fs h1 h2
        cases i with
        | zero => simp at h2
        | succ i => simp at h1
    refine codeAny_mono (callN_sound (W := W) G k (by omega) f fa [.ref 0] [.ref a] [a] _ s₁ callerA ⟨[], fun _ _ => False⟩ (fun v s' => v = .bool true ∧ (∀ b o, s₁.heap.get? b = some o → s'.heap.get? b = some o) ∧ s'.os = s₁.os ∧ s'.gens = s₁.gens) q2 ⟨rfl, ?_, ?_⟩ rel rfl (fun _ h => nomatch h) ⟨_, _, rfl, ⟨a, rfl, rfl⟩, rfl⟩ ?_) ?_
    · show 301 + 2 * k < 900; omega
    · show 4 + 20 * k + 100 < 9900; omega
    · rw [run]
      intro μ' u h' tk r st hv
      exact ⟨hv, r.base, rfl, rfl⟩
    · intro r s' q
      cases r with
      | error e => exact q.elim
      | ok r =>
        cases r with
        | ret v =>
          obtain ⟨rfl, h1, h2, h3⟩ := q
          exact GoodW.toG ⟨.inl ⟨_, _, [], rfl, hn, .bool true, hp, fun _ => ⟨List.nodup_nil, fun _ h => nomatch h⟩⟩, h1, h2, by rw [h3, hg]⟩
        | _ => exact q.elim

end Mine


-- part MiniHead
set_option maxRecDepth 100000
set_option linter.unusedVariables false
namespace Mine
open PySem PySem.W PyProof.Rows PySem.Calls
noncomputable def topRunT (tb : String → Option Builtin) (p : Program) (w : World) (n₀ : Nat) (ann : Option Value) : Nat → SharedT → Thread → Option SharedT
  | 0, _, _ => none
  | n + 1, s, t => match through t with
    | true => some s
    | false => match stepOk n₀ ann t with
      | false => none
      | true => match stepT (denote tb) p w s t with
        | some (s', t') => topRunT tb p w n₀ ann n s' t'
        | none => none
theorem topRun_ofT {tb : String → Option Builtin} {p : Program} {w : World} {n₀ : Nat} {ann : Option Value} : ∀ {n : Nat} {s s' : SharedT} {t : Thread}, topRunT tb p w n₀ ann n s t = some s' → topRun tb p w n₀ ann n s.abs t = some s'.abs
  | 0, _, _, _, h => by cases h
  | n + 1, s, s', t, h => by
    unfold topRunT at h
    unfold topRun
    cases he : through t with
    | true => rw [he] at h; cases h; rfl
    | false =>
      rw [he] at h
      cases hk : stepOk n₀ ann t with
      | false => rw [hk] at h; cases h
      | true =>
        rw [hk] at h
        cases hs : stepT (denote tb) p w s t with
        | none => rw [hs] at h; cases h
        | some r => obtain ⟨s₂, t₂⟩ := r; rw [hs] at h; rw [stepT_spec hs]; exact topRun_ofT h
noncomputable def boot_tree (P : Params) : BT := (boot_heap P).objs.toList.foldl (fun (x : BT × Nat) o => (x.1.ins x.2 o, x.2 + 1)) (BT.nil, 0) |>.1
theorem babs (P : Params) : absHeap (boot_tree P) 11 (boot_heap P).life = boot_heap P := by kernel_rfl
theorem left_of_tree {p q : Program} {loose : List Str} {Xt : Shared → Bool} {α : Type} {Yf : Shared → α} {Ya : World → α} {N : Nat} {g0 : Bool} {ann : Option Value}
    (e : opening p = plainProg p.main.scope.names) (hN : Nat.ble 600 N = true) (f : ∀ s, fenceModules? p s = some s)
    (size : ∀ w : World, ((boot_heap w.params).isNs mainGlobals && (Array.mk [] : Array GenState).size == 0, (boot_heap w.params).objs.size, (boot_heap w.params).nsMap mainGlobals "__annotations__") = (true, 11, ann))
    (run : ∀ (w : World) (os : OsState), (topRunT treeTable p w 11 ann N ⟨boot_tree w.params, 11, (boot_heap w.params).life, Array.mk [], boot_drawn, boot_toks, os⟩ (topStub p)).map (fun S =>
      ((staticsOk (importedModules p.main.body) (boot_heap w.params) S.abs.heap && namesBound p S.abs.heap && gensDone S.abs && laidKept (boot_heap w.params) S.abs.heap), openSeen q loose (importedModules p.main.body) Xt g0 S.abs, Yf S.abs)) = some (true, openGood q loose, Ya w)) : LeftO p q loose Xt Yf Ya N g0 := fun w => by
  obtain ⟨⟨h, gs, d, k, os⟩, e1, e'⟩ := Option.map_eq_some_iff.mp (boot_open e hN f w)
  obtain ⟨rfl, rfl, rfl, rfl⟩ : h = boot_heap w.params ∧ gs = Array.mk [] ∧ d = boot_drawn ∧ k = boot_toks := by simpa using e'
  obtain ⟨z1, z2, z3⟩ : _ ∧ _ ∧ _ := by simpa only [Prod.mk.injEq] using size w
  obtain ⟨S, r, l⟩ := Option.map_eq_some_iff.mp (run w os)
  obtain ⟨l1, l2, l3⟩ : _ ∧ _ ∧ _ := by simpa only [Prod.mk.injEq] using l
  have r := topRun_ofT r
  rw [show SharedT.abs ⟨boot_tree w.params, 11, (boot_heap w.params).life, Array.mk [], boot_drawn, boot_toks, os⟩ = ⟨boot_heap w.params, Array.mk [], boot_drawn, boot_toks, os⟩ from by unfold SharedT.abs; rw [babs]] at r
  have t : topFrom treeTable p w N ⟨boot_heap w.params, Array.mk [], boot_drawn, boot_toks, os⟩ = some S.abs := by
    unfold topFrom
    dsimp only
    rw [z1, z2, z3, r]
    show (match staticsOk (importedModules p.main.body) (boot_heap w.params) S.abs.heap && namesBound p S.abs.heap && gensDone S.abs && laidKept (boot_heap w.params) S.abs.heap with | true => _ | false => _) = _
    rw [l1]
  unfold openEnds
  rw [e1]
  show (topFrom treeTable p w N _).map _ = _
  rw [t]
  exact congrArg some (Prod.ext l2 l3)
end Mine


-- part MiniWp
set_option maxRecDepth 4000
set_option linter.unusedVariables false
set_option linter.unusedSimpArgs false
namespace Mine
open PySem (Operator UnaryOp CmpOp)

noncomputable def Wp {α : Type} (r : Res α) (P : α → MH → Prop) : Prop :=
  match r with
  | .ok a h => P a h
  | .exc _ _ => False
  | .stuck => False

@[simp] theorem Wp_ok {α : Type} (a : α) (h : MH) (P : α → MH → Prop) : Wp (.ok a h) P = P a h := rfl
@[simp] theorem Wp_exc {α : Type} (c : Nat) (h : MH) (P : α → MH → Prop) : Wp (.exc c h) P = False := rfl
@[simp] theorem Wp_stuck {α : Type} (P : α → MH → Prop) : Wp .stuck P = False := rfl
@[simp] theorem Wp_bind {α β : Type} (r : Res α) (f : α → MH → Res β) (P : β → MH → Prop) : Wp (r.bind f) P = Wp r (fun a h => Wp (f a h) P) := by cases r <;> rfl
theorem Wp.mono {α : Type} {r : Res α} {P Q : α → MH → Prop} (h : Wp r P) (g : ∀ a h, P a h → Q a h) : Wp r Q := by
  cases r <;> first | exact g _ _ h | exact False.elim h
theorem Wp.get {α : Type} {r : Res α} {P : α → MH → Prop} (h : Wp r P) : ∃ a h', r = .ok a h' ∧ P a h' := by
  cases r <;> first | exact ⟨_, _, rfl, h⟩ | exact False.elim h
@[simp] theorem Wp_opt {α : Type} (o : Option α) (h : MH) (P : α → MH → Prop) : Wp (Res.opt o h) P = (match o with | some a => P a h | none => False) := by cases o <;> rfl
@[simp] theorem Wp_ite {α : Type} (c : Prop) [Decidable c] (a b : Res α) (P : α → MH → Prop) : Wp (if c then a else b) P = (if c then Wp a P else Wp b P) := by split <;> rfl

section
variable (C : Cf) (W : Nat) (ρ : Rho) (h : MH)

@[simp] theorem E_const (v : Val) : (sem C (.const v)).E ρ h = .ok v h := rfl
@[simp] theorem E_gconst (v : Val) : (sem C (.gconst v)).E ρ h = .ok v h := rfl
@[simp] theorem E_loc (i : Nat) : (sem C (.loc i)).E ρ h = locV i ρ h := rfl
@[simp] theorem E_bin (op : Operator) (a b : MExpr) : (sem C (.bin op a b)).E ρ h = ((sem C a).E ρ h).bind fun v h => ((sem C b).E ρ h).bind fun w h => binV h op v w := rfl
@[simp] theorem E_un (op : UnaryOp) (a : MExpr) : (sem C (.un op a)).E ρ h = ((sem C a).E ρ h).bind fun v h => unV h op v := rfl
@[simp] theorem T_not (a : MExpr) : (sem C (.un .Not a)).T ρ h = ((sem C a).T ρ h).bind fun b h => .ok (!b) h := rfl
@[simp] theorem E_and (a b : MExpr) : (sem C (.and a b)).E ρ h = ((sem C a).E ρ h).bind fun v h => (Res.opt (truthyV h v) h).bind fun t h => if t then (sem C b).E ρ h else .ok v h := rfl
@[simp] theorem T_and (a b : MExpr) : (sem C (.and a b)).T ρ h = ((sem C a).T ρ h).bind fun t h => if t then (sem C b).T ρ h else .ok false h := rfl
@[simp] theorem E_or (a b : MExpr) : (sem C (.or a b)).E ρ h = ((sem C a).E ρ h).bind fun v h => (Res.opt (truthyV h v) h).bind fun t h => if t then .ok v h else (sem C b).E ρ h := rfl
@[simp] theorem T_or (a b : MExpr) : (sem C (.or a b)).T ρ h = ((sem C a).T ρ h).bind fun t h => if t then .ok true h else (sem C b).T ρ h := rfl
@[simp] theorem E_cmp (op : CmpOp) (a b : MExpr) : (sem C (.cmp op a b)).E ρ h = ((sem C a).E ρ h).bind fun v h => ((sem C b).E ρ h).bind fun w h => (Res.opt (cmpV h op v w) h).bind fun t h => .ok (.bool t) h := rfl
@[simp] theorem T_cmp (op : CmpOp) (a b : MExpr) : (sem C (.cmp op a b)).T ρ h = ((sem C a).E ρ h).bind fun v h => ((sem C b).E ρ h).bind fun w h => Res.opt (cmpV h op v w) h := rfl
@[simp] theorem E_cmp2 (o₁ o₂ : CmpOp) (a b c : MExpr) : (sem C (.cmp2 o₁ o₂ a b c)).E ρ h = ((sem C a).E ρ h).bind fun v h => ((sem C b).E ρ h).bind fun w h => (Res.opt (cmpV h o₁ v w) h).bind fun t h =>
        if t then ((sem C c).E ρ h).bind fun x h => (Res.opt (cmpV h o₂ w x) h).bind fun t h => .ok (.bool t) h else .ok (.bool false) h := rfl
@[simp] theorem T_cmp2 (o₁ o₂ : CmpOp) (a b c : MExpr) : (sem C (.cmp2 o₁ o₂ a b c)).T ρ h = ((sem C a).E ρ h).bind fun v h => ((sem C b).E ρ h).bind fun w h => (Res.opt (cmpV h o₁ v w) h).bind fun t h =>
        if t then ((sem C c).E ρ h).bind fun x h => Res.opt (cmpV h o₂ w x) h else .ok false h := rfl
@[simp] theorem E_isinst (t : Ty) (a : MExpr) : (sem C (.isinst t a)).E ρ h = ((sem C a).E ρ h).bind fun v h => (Res.opt (isInstV h t v) h).bind fun b h => .ok (.bool b) h := rfl
@[simp] theorem T_isinst (t : Ty) (a : MExpr) : (sem C (.isinst t a)).T ρ h = ((sem C (.isinst t a)).E ρ h).bind fun v h => Res.opt (truthyV h v) h := rfl
@[simp] theorem E_call (f : Nat) (args : MExpr) : (sem C (.call f args)).E ρ h = ((sem C args).Es ρ h).bind fun vs h => C f vs h := rfl
@[simp] theorem T_call (f : Nat) (args : MExpr) : (sem C (.call f args)).T ρ h = ((sem C (.call f args)).E ρ h).bind fun v h => Res.opt (truthyV h v) h := rfl
@[simp] theorem E_bi (b : BI) (args : MExpr) : (sem C (.bi b args)).E ρ h = ((sem C args).Es ρ h).bind fun vs h => biV h b vs := rfl
@[simp] theorem T_bi (b : BI) (args : MExpr) : (sem C (.bi b args)).T ρ h = ((sem C (.bi b args)).E ρ h).bind fun v h => Res.opt (truthyV h v) h := rfl
@[simp] theorem E_lrange (a : MExpr) : (sem C (.lrange a)).E ρ h = ((sem C a).E ρ h).bind lrangeV := rfl
@[simp] theorem E_meth (m : Me) (o args : MExpr) : (sem C (.meth m o args)).E ρ h = ((sem C o).E ρ h).bind fun v h => if meOk h m v then ((sem C args).Es ρ h).bind fun vs h => meV h m v vs else .stuck := rfl
@[simp] theorem E_lst (es : MExpr) : (sem C (.lst es)).E ρ h = ((sem C es).Es ρ h).bind newList := rfl
@[simp] theorem E_tup (es : MExpr) : (sem C (.tup es)).E ρ h = ((sem C es).Es ρ h).bind fun vs h => if vs.length ≤ lim then newObj (.tup vs) h else .stuck := rfl
@[simp] theorem E_sub (o i : MExpr) : (sem C (.sub o i)).E ρ h = ((sem C o).E ρ h).bind fun v h => ((sem C i).E ρ h).bind fun w h => Res.opt (subV h v w) h := rfl
@[simp] theorem T_sub (o i : MExpr) : (sem C (.sub o i)).T ρ h = ((sem C (.sub o i)).E ρ h).bind fun v h => Res.opt (truthyV h v) h := rfl
@[simp] theorem T_loc (i : Nat) : (sem C (.loc i)).T ρ h = ((sem C (.loc i)).E ρ h).bind fun v h => Res.opt (truthyV h v) h := rfl
@[simp] theorem T_const (v : Val) : (sem C (.const v)).T ρ h = Res.opt (truthyV h v) h := rfl
@[simp] theorem E_slice (o lo hi : MExpr) : (sem C (.slice o lo hi)).E ρ h = ((sem C o).E ρ h).bind fun v h => (((sem C lo).Es ρ h).bind fun a h => Res.opt (optOf a) h).bind fun a h => (((sem C hi).Es ρ h).bind fun b h => Res.opt (optOf b) h).bind fun b h => sliceV h v a b := rfl
@[simp] theorem E_srev (o : MExpr) : (sem C (.srev o)).E ρ h = ((sem C o).E ρ h).bind fun v h => srevV h v := rfl
@[simp] theorem E_comp (elt tgt it cond : MExpr) : (sem C (.comp elt tgt it cond)).E ρ h = ((sem C it).I ρ h).bind fun s h => (compLoop (compStep tgt (sem C cond).T (sem C elt).E ρ) s.2 s.1 h).bind newList := rfl
@[simp] theorem Es_nil : (sem C .nil).Es ρ h = .ok [] h := rfl
@[simp] theorem Es_cons (a b : MExpr) : (sem C (.cons a b)).Es ρ h = ((sem C a).E ρ h).bind fun v h => ((sem C b).Es ρ h).bind fun vs h => .ok (v :: vs) h := rfl
@[simp] theorem I_irange (a : MExpr) : (sem C (.irange a)).I ρ h = ((sem C a).E ρ h).bind irangeV := rfl
@[simp] theorem I_irange2 (a b : MExpr) : (sem C (.irange2 a b)).I ρ h = ((sem C a).E ρ h).bind fun v h => ((sem C b).E ρ h).bind fun w h => irange2V v w h := rfl
@[simp] theorem I_iobj (a : MExpr) : (sem C (.iobj a)).I ρ h = ((sem C a).E ρ h).bind fun v h => Res.opt (srcOf h v) h := rfl

noncomputable def thenX (r : MStmt) (p : MFlow × Rho) (h : MH) : Res (MFlow × Rho) := match p.1 with
      | .next => exec C W r p.2 h
      | .ret v => .ok (.ret v, p.2) h
@[simp] theorem X_cons' (s r : MStmt) : exec C W (.cons s r) ρ h = (exec C W s ρ h).bind (thenX C W r) := rfl
@[simp] theorem thenX_next (r : MStmt) : thenX C W r (.next, ρ) h = exec C W r ρ h := rfl
@[simp] theorem thenX_ret (r : MStmt) (v : Val) : thenX C W r (.ret v, ρ) h = .ok (.ret v, ρ) h := rfl
@[simp] theorem X_nil : exec C W .nil ρ h = .ok (.next, ρ) h := rfl
@[simp] theorem X_assign (i : Nat) (e : MExpr) : exec C W (.assign i e) ρ h = ((sem C e).E ρ h).bind fun v h => .ok (.next, ρ.set i (some v)) h := rfl
@[simp] theorem X_asub (o i e : MExpr) : exec C W (.asub o i e) ρ h = ((sem C e).E ρ h).bind fun v h => ((sem C o).E ρ h).bind fun ov h => ((sem C i).E ρ h).bind fun iv h => (asubV h ov iv v).bind fun _ h => .ok (.next, ρ) h := rfl
@[simp] theorem X_atup (ts : List Nat) (e : MExpr) : exec C W (.atup ts e) ρ h = ((sem C e).E ρ h).bind fun v h => (Res.opt (tupV h v) h).bind fun vs h => (Res.opt (bindS ts vs ρ) h).bind fun ρ' h => .ok (.next, ρ') h := rfl
@[simp] theorem X_expr (e : MExpr) : exec C W (.expr e) ρ h = ((sem C e).E ρ h).bind fun _ h => .ok (.next, ρ) h := rfl
@[simp] theorem X_ifs (c : MExpr) (t e : MStmt) : exec C W (.ifs c t e) ρ h = ((sem C c).T ρ h).bind fun b h => if b then exec C W t ρ h else exec C W e ρ h := rfl
@[simp] theorem X_fors (tgt it : MExpr) (b : MStmt) : exec C W (.fors tgt it b) ρ h = ((sem C it).I ρ h).bind fun s h => forLoop (forStep tgt (exec C W b)) s.2 s.1 ρ h := rfl
@[simp] theorem X_whiles (c : MExpr) (b : MStmt) : exec C W (.whiles c b) ρ h = whileLoop (sem C c).T (exec C W b) W ρ h := rfl
@[simp] theorem X_ret (e : MExpr) : exec C W (.ret e) ρ h = ((sem C e).E ρ h).bind fun v h => .ok (.ret v, ρ) h := rfl
@[simp] theorem X_raise (c : Nat) : exec C W (.raise c) ρ h = .exc c h := rfl
@[simp] theorem X_tryx (b : MStmt) (hs : List (Nat × Bool × Val)) : exec C W (.tryx b hs) ρ h = tryV hs ρ (exec C W b ρ h) := rfl
@[simp] theorem X_tryk (b : MStmt) (k w : Nat) : exec C W (.tryk b k w) ρ h = tryK C k w ρ (exec C W b ρ h) := rfl
end

noncomputable def retOf (p : MFlow × Rho) (h : MH) : Res Val := match p.1 with
          | .ret v => .ok v h
          | .next => .ok .none h
@[simp] theorem retOf_ret (v : Val) (ρ : Rho) (h : MH) : retOf (.ret v, ρ) h = .ok v h := rfl
@[simp] theorem retOf_next (ρ : Rho) (h : MH) : retOf (.next, ρ) h = .ok .none h := rfl
theorem callN_def {F : Nat → Option MFun} {W n f : Nat} {vs : List Val} {h : MH} {d : MFun} (e : F f = some d) (l : vs.length = d.np) : callN F W (n + 1) f vs h = (exec (callN F W n) W d.body (vs.map some ++ List.replicate (d.ns - d.np) none) h).bind retOf := by
  show (match F f with | some d => _ | none => _) = _
  rw [e]; simp only [if_pos l]; rfl

/- the leaves -/
section
variable (h : MH)
@[simp] theorem locV_zero (v : Val) (ρ : Rho) : locV 0 (some v :: ρ) h = .ok v h := rfl
@[simp] theorem locV_succ (i : Nat) (o : Option Val) (ρ : Rho) : locV (i + 1) (o :: ρ) h = locV i ρ h := rfl
@[simp] theorem bin_add (a b : Int) : binV h .Add (.int a) (.int b) = .ok (.int (a + b)) h := rfl
@[simp] theorem bin_sub (a b : Int) : binV h .Sub (.int a) (.int b) = .ok (.int (a - b)) h := rfl
@[simp] theorem bin_mul (a b : Int) : binV h .Mult (.int a) (.int b) = if mulOk a b then .ok (.int (a * b)) h else .stuck := rfl
@[simp] theorem bin_fd (a b : Int) : binV h .FloorDiv (.int a) (.int b) = if 0 < b ∧ b < 1073741824 then .ok (.int (a / b)) h else .stuck := rfl
@[simp] theorem bin_mod (a b : Int) : binV h .Mod (.int a) (.int b) = if 0 < b then .ok (.int (a % b)) h else .stuck := rfl
@[simp] theorem bin_addR (i j : Nat) : binV h .Add (.ref i) (.ref j) = addRR h i j := rfl
@[simp] theorem bin_mulR (i : Nat) (n : Int) : binV h .Mult (.ref i) (.int n) = mulRI h i n := rfl
@[simp] theorem cmp_eqI (a b : Int) : cmpV h .Eq (.int a) (.int b) = some (a == b) := rfl
@[simp] theorem cmp_neI (a b : Int) : cmpV h .NotEq (.int a) (.int b) = some (!(a == b)) := rfl
@[simp] theorem cmp_lt (a b : Int) : cmpV h .Lt (.int a) (.int b) = some (decide (a < b)) := rfl
@[simp] theorem cmp_le (a b : Int) : cmpV h .LtE (.int a) (.int b) = some (decide (a ≤ b)) := rfl
@[simp] theorem cmp_gt (a b : Int) : cmpV h .Gt (.int a) (.int b) = some (decide (a > b)) := rfl
@[simp] theorem cmp_ge (a b : Int) : cmpV h .GtE (.int a) (.int b) = some (decide (a ≥ b)) := rfl
@[simp] theorem truthy_bool (b : Bool) : truthyV h (.bool b) = some b := rfl
@[simp] theorem truthy_int (i : Int) : truthyV h (.int i) = some (i != 0) := rfl
@[simp] theorem mulOk_r (a : Int) (n : Nat) : mulOk a (no_index (OfNat.ofNat n)) = (decide (a.natAbs < 9223372036854775808) || decide ((no_index (OfNat.ofNat n) : Int).natAbs < 9223372036854775808)) := rfl
end

/- loops -/
end Mine


-- part MDefs
set_option maxRecDepth 4000
namespace Mine
open PySem
noncomputable def f_is_number : MFun := ⟨1, 1,
  (.cons (.ret (.and (.isinst .int (.loc 0)) (.un .Not (.isinst .bool (.loc 0)))))
  .nil)⟩
noncomputable def f_is_place : MFun := ⟨2, 2,
  (.cons (.ret (.and (.call 1 (.cons (.loc 0) .nil)) (.cmp2 .LtE .Lt (.const (.int 0)) (.loc 0) (.loc 1))))
  .nil)⟩
noncomputable def f_need_bids : MFun := ⟨1, 2,
  (.cons (.fors (.loc 1) (.iobj (.loc 0))
  (.cons (.ifs (.or (.un .Not (.call 1 (.cons (.loc 1) .nil))) (.un .Not (.cmp2 .LtE .LtE (.const (.int 0)) (.loc 1) (.gconst (.int 1000000000000)))))
  (.cons (.raise 4)
  .nil)
  .nil)
  .nil))
  .nil)⟩
noncomputable def f_need_row : MFun := ⟨2, 2,
  (.cons (.ifs (.cmp .NotEq (.bi .len (.cons (.loc 0) .nil)) (.loc 1))
  (.cons (.raise 3)
  .nil)
  .nil)
  (.cons (.expr (.call 3 (.cons (.loc 0) .nil)))
  .nil))⟩
noncomputable def f_look : MFun := ⟨1, 2,
  (.cons (.ifs (.cmp .Eq (.bi .len (.cons (.loc 0) .nil)) (.const (.int 0)))
  (.cons (.raise 1)
  .nil)
  .nil)
  (.cons (.ifs (.or (.cmp .Gt (.bi .len (.cons (.loc 0) .nil)) (.gconst (.int 9))) (.cmp .Gt (.bi .len (.cons (.sub (.loc 0) (.const (.int 0))) .nil)) (.gconst (.int 40))))
  (.cons (.raise 2)
  .nil)
  .nil)
  (.cons (.fors (.loc 1) (.iobj (.loc 0))
  (.cons (.expr (.call 4 (.cons (.loc 1) (.cons (.bi .len (.cons (.sub (.loc 0) (.const (.int 0))) .nil)) .nil))))
  .nil))
  .nil)))⟩
noncomputable def f_need_deal : MFun := ⟨3, 3,
  (.cons (.expr (.call 5 (.cons (.loc 0) .nil)))
  (.cons (.ifs (.un .Not (.call 6 (.cons (.loc 0) (.cons (.loc 1) (.cons (.loc 2) .nil)))))
  (.cons (.raise 5)
  .nil)
  .nil)
  .nil))⟩
end Mine


-- part L14F
set_option maxRecDepth 4000
namespace Mine
open PySem
noncomputable def f14_is_deal : MFun := ⟨3, 5,
  (.cons (.ifs (.or (.cmp .NotEq (.bi .len (.cons (.loc 1) .nil)) (.bi .len (.cons (.loc 0) .nil))) (.cmp .NotEq (.bi .len (.cons (.loc 2) .nil)) (.bi .len (.cons (.loc 0) .nil))))
  (.cons (.ret (.const (.bool false)))
  .nil)
  .nil)
  .wild)⟩
noncomputable def f14_gains : MFun := ⟨3, 3,
  (.cons (.expr (.call 7 (.cons (.loc 0) (.cons (.loc 1) (.cons (.loc 2) .nil)))))
  .wild)⟩
noncomputable def f14_envies : MFun := ⟨3, 7,
  (.cons (.expr (.call 7 (.cons (.loc 0) (.cons (.loc 1) (.cons (.loc 2) .nil)))))
  .wild)⟩
noncomputable def f14_fair : MFun := ⟨3, 6,
  (.cons (.expr (.call 5 (.cons (.loc 0) .nil)))
  .wild)⟩
noncomputable def f14_in_heaps : MFun := ⟨1, 5,
  (.cons (.expr (.call 5 (.cons (.loc 0) .nil)))
  .wild)⟩
noncomputable def f_shown : MFun := ⟨1, 1,
  (.cons (.expr (.call 5 (.cons (.loc 0) .nil)))
  .wild)⟩
noncomputable def f_number_of : MFun := ⟨1, 2,
  (.cons (.ifs (.or (.un .Not (.cmp2 .LtE .LtE (.const (.int 1)) (.bi .len (.cons (.loc 0) .nil)) (.gconst (.int 13)))) (.un .Not (.bi .all (.cons (.comp (.cmp .In (.loc 1) (.gconst (.str [48, 49, 50, 51, 52, 53, 54, 55, 56, 57]))) (.loc 1) (.iobj (.loc 0)) (.const (.bool true))) .nil))))
  (.cons (.raise 8)
  .nil)
  .nil)
  (.cons (.ifs (.and (.cmp .Eq (.sub (.loc 0) (.const (.int 0))) (.const (.str [48]))) (.cmp .NotEq (.loc 0) (.const (.str [48]))))
  (.cons (.raise 8)
  .nil)
  .nil)
  (.cons (.ret (.bi .int (.cons (.loc 0) .nil)))
  .nil)))⟩
noncomputable def f_row_of : MFun := ⟨1, 2,
  (.cons (.ifs (.cmp .Eq (.loc 0) (.const (.str [])))
  (.cons (.ret (.lst .nil))
  .nil)
  .nil)
  (.cons (.ret (.comp (.call 19 (.cons (.loc 1) .nil)) (.loc 1) (.iobj (.meth .split (.loc 0) (.cons (.const (.str [32])) .nil))) (.const (.bool true))))
  .nil))⟩
noncomputable def f_read : MFun := ⟨1, 4,
  (.cons (.assign 1 (.meth .split (.loc 0) (.cons (.const (.str [10])) .nil)))
  (.cons (.ifs (.cmp .NotEq (.sub (.loc 1) (.un .USub (.const (.int 1)))) (.const (.str [])))
  (.cons (.raise 8)
  .nil)
  .nil)
  (.cons (.assign 2 (.comp (.call 20 (.cons (.loc 3) .nil)) (.loc 3) (.iobj (.slice (.loc 1) .nil (.cons (.un .USub (.const (.int 1))) .nil))) (.const (.bool true))))
  .wild)))⟩
noncomputable def f14_in_rooms : MFun := ⟨1, 9,
  (.cons (.expr (.call 5 (.cons (.loc 0) .nil)))
  .wild)⟩
noncomputable def f14_law_cell : MFun := ⟨2, 2,
  (.cons (.ifs (.cmp .Lt (.loc 1) (.bi .len (.cons (.loc 0) .nil)))
  (.cons (.ret (.sub (.loc 0) (.loc 1)))
  .nil)
  .nil)
  (.cons (.ret (.const (.int 0)))
  .nil))⟩
noncomputable def f14_law_bids : MFun := ⟨2, 2,
  (.cons (.ifs (.cmp .Eq (.loc 0) (.const (.int 0)))
  (.cons (.ret (.lst .nil))
  .nil)
  .nil)
  (.cons (.ifs (.and (.cmp .Eq (.loc 0) (.const (.int 1))) (.cmp .Eq (.bin .Mod (.loc 1) (.const (.int 2))) (.const (.int 0))))
  (.cons (.ret (.bin .Mult (.lst (.cons (.lst (.cons (.const (.int 0)) .nil)) .nil)) (.bin .Add (.const (.int 10)) (.bin .Mod (.bin .FloorDiv (.loc 1) (.const (.int 2))) (.const (.int 3))))))
  .nil)
  .nil)
  (.cons (.ifs (.cmp .Eq (.loc 0) (.const (.int 1)))
  (.cons (.ret (.lst (.cons (.bin .Mult (.lst (.cons (.const (.int 0)) .nil)) (.bin .Add (.const (.int 41)) (.bin .Mod (.bin .FloorDiv (.loc 1) (.const (.int 2))) (.const (.int 3))))) .nil)))
  .nil)
  .nil)
  (.cons (.ifs (.cmp .Eq (.loc 0) (.const (.int 2)))
  (.cons (.ret (.lst (.cons (.lst (.cons (.const (.int 1)) (.cons (.const (.int 2)) .nil))) (.cons (.bin .Mult (.lst (.cons (.const (.int 1)) .nil)) (.bin .Add (.bin .Mult (.bin .Mod (.loc 1) (.const (.int 2))) (.const (.int 2))) (.const (.int 1)))) .nil))))
  .nil)
  .nil)
  (.cons (.ret (.lst (.cons (.lst (.cons (.const (.int 1)) (.cons (.sub (.lst (.cons (.un .USub (.const (.int 1))) (.cons (.const (.int 1000000000001)) (.cons (.const (.bool true)) (.cons (.const (.str [49])) (.cons (.const .none) .nil)))))) (.bin .Mod (.loc 1) (.const (.int 5)))) .nil))) .nil)))
  .nil)))))⟩
noncomputable def f_law_by_bids : MFun := ⟨2, 2,
  (.cons (.ifs (.cmp .Eq (.loc 0) (.const (.int 0)))
  (.cons (.expr (.call 13 (.cons (.loc 1) .nil)))
  .nil)
  .nil)
  (.cons (.ifs (.cmp .Eq (.loc 0) (.const (.int 1)))
  (.cons (.expr (.call 14 (.cons (.loc 1) .nil)))
  .nil)
  .nil)
  (.cons (.ifs (.cmp .Eq (.loc 0) (.const (.int 2)))
  (.cons (.expr (.call 18 (.cons (.loc 1) .nil)))
  .nil)
  .nil)
  (.cons (.ifs (.cmp .Eq (.loc 0) (.const (.int 3)))
  (.cons (.expr (.call 9 (.cons (.loc 1) (.cons (.lst .nil) (.cons (.lst .nil) .nil)))))
  .nil)
  .nil)
  (.cons (.ifs (.cmp .Eq (.loc 0) (.const (.int 4)))
  (.cons (.expr (.call 10 (.cons (.loc 1) (.cons (.lst .nil) (.cons (.lst .nil) .nil)))))
  .nil)
  .nil)
  (.cons (.ifs (.cmp .Eq (.loc 0) (.const (.int 5)))
  (.cons (.expr (.call 11 (.cons (.loc 1) (.cons (.lst .nil) (.cons (.lst .nil) .nil)))))
  .nil)
  .nil)
  .nil))))))⟩
noncomputable def f_law_by_table : MFun := ⟨2, 3,
  (.cons (.assign 2 (.newT 79))
  (.cons (.expr (.mcall 85 (.loc 2) (.cons (.lst .nil) .nil)))
  (.cons (.expr (.mcall 83 (.loc 2) (.cons (.lst (.cons (.bin .Mod (.loc 1) (.const (.int 100))) .nil)) .nil)))
  (.cons (.ifs (.and (.cmp .Eq (.loc 0) (.const (.int 5))) (.cmp .Eq (.bin .Mod (.loc 1) (.const (.int 2))) (.const (.int 0))))
  (.cons (.expr (.mcall 84 (.loc 2) (.cons (.bin .Add (.const (.int 1)) (.bin .Mod (.bin .FloorDiv (.loc 1) (.const (.int 2))) (.const (.int 1000)))) .nil)))
  .nil)
  .nil)
  (.cons (.ifs (.cmp .Eq (.loc 0) (.const (.int 5)))
  (.cons (.expr (.mcall 87 (.loc 2) (.cons (.bin .Sub (.un .USub (.const (.int 1))) (.bin .Mod (.bin .FloorDiv (.loc 1) (.const (.int 2))) (.const (.int 1000)))) (.cons (.const (.int 0)) (.cons (.const (.int 5)) .nil)))))
  .nil)
  .nil)
  (.cons (.ifs (.cmp .Eq (.bin .Mod (.loc 1) (.const (.int 2))) (.const (.int 0)))
  (.cons (.expr (.mcall 86 (.loc 2) (.cons (.bin .Add (.const (.int 1)) (.bin .Mod (.bin .FloorDiv (.loc 1) (.const (.int 2))) (.const (.int 1000)))) .nil)))
  .nil)
  .nil)
  (.cons (.expr (.mcall 87 (.loc 2) (.cons (.const (.int 0)) (.cons (.bin .Sub (.un .USub (.const (.int 1))) (.bin .Mod (.bin .FloorDiv (.loc 1) (.const (.int 2))) (.const (.int 1000)))) (.cons (.const (.int 5)) .nil)))))
  .nil)))))))⟩
noncomputable def f_law_raised : MFun := ⟨3, 3,
  (.cons (.ifs (.cmp .Lt (.loc 0) (.const (.int 4)))
  (.cons (.expr (.call 72 (.cons (.loc 1) (.cons (.call 26 (.cons (.loc 0) (.cons (.loc 2) .nil))) .nil))))
  .nil)
  .nil)
  (.cons (.ifs (.and (.cmp .Eq (.loc 0) (.const (.int 4))) (.cmp .Eq (.bin .Mod (.loc 1) (.const (.int 2))) (.const (.int 0))))
  (.cons (.expr (.call 9 (.cons (.lst (.cons (.lst (.cons (.const (.int 1)) .nil)) .nil)) (.cons (.lst (.cons (.lst (.cons (.const (.int 0)) .nil)) (.cons (.lst .nil) .nil))) (.cons (.lst (.cons (.const (.int 0)) (.cons (.const (.int 0)) .nil))) .nil)))))
  .nil)
  .nil)
  (.cons (.ifs (.cmp .Eq (.loc 0) (.const (.int 4)))
  (.cons (.expr (.call 10 (.cons (.lst (.cons (.lst (.cons (.const (.int 1)) .nil)) .nil)) (.cons (.lst (.cons (.lst (.cons (.const (.int 0)) .nil)) (.cons (.lst .nil) .nil))) (.cons (.lst (.cons (.const (.int 0)) (.cons (.const (.int 0)) .nil))) .nil)))))
  .nil)
  .nil)
  (.cons (.ifs (.cmp .Eq (.loc 0) (.const (.int 7)))
  (.cons (.expr (.call 21 (.cons (.sub (.lst (.cons (.const (.str [120])) (.cons (.const (.str [48, 49, 10])) (.cons (.const (.str [49])) (.cons (.const (.str [49, 32, 32, 50, 10])) (.cons (.const (.str [32, 10])) .nil)))))) (.bin .Mod (.loc 2) (.const (.int 5)))) .nil)))
  .nil)
  .nil)
  (.cons (.expr (.call 76 (.cons (.loc 0) (.cons (.loc 2) .nil))))
  .nil)))))⟩
-- _law_kinds: call isinstance
noncomputable def f_law : MFun := ⟨1, 3,
  (.cons (.assign 1 (.bin .Mod (.call 23 (.cons (.loc 0) (.cons (.const (.int 0)) .nil))) (.const (.int 8))))
  (.cons (.tryk (.cons (.expr (.call 77 (.cons (.loc 1) (.cons (.bin .Mod (.call 23 (.cons (.loc 0) (.cons (.const (.int 1)) .nil))) (.const (.int 6))) (.cons (.call 23 (.cons (.loc 0) (.cons (.const (.int 2)) .nil))) .nil)))))
  .nil) 2 1)
  (.cons (.ret (.const (.bool false)))
  .nil)))⟩
noncomputable def f_T___init__ : MFun := ⟨1, 1,
  (.cons (.aattr (.loc 0) 0 (.lst .nil))
  (.cons (.aattr (.loc 0) 1 (.const (.int 0)))
  (.cons (.aattr (.loc 0) 2 (.lst .nil))
  .nil)))⟩
noncomputable def f_T_become : MFun := ⟨3, 3,
  (.cons (.expr (.meth .append (.attr (.loc 0) 2) (.cons (.tup (.cons (.attr (.loc 0) 0) (.cons (.attr (.loc 0) 1) .nil))) .nil)))
  (.cons (.aattr (.loc 0) 0 (.loc 1))
  (.cons (.aattr (.loc 0) 1 (.loc 2))
  .nil)))⟩
noncomputable def f_T_need_person : MFun := ⟨2, 2,
  (.cons (.ifs (.un .Not (.call 2 (.cons (.loc 1) (.cons (.bi .len (.cons (.attr (.loc 0) 0) .nil)) .nil))))
  (.cons (.raise 6)
  .nil)
  .nil)
  .nil)⟩
noncomputable def f_T_need_good : MFun := ⟨2, 2,
  (.cons (.ifs (.un .Not (.call 2 (.cons (.loc 1) (.cons (.attr (.loc 0) 1) .nil))))
  (.cons (.raise 7)
  .nil)
  .nil)
  .nil)⟩
noncomputable def f_T_come : MFun := ⟨2, 2,
  (.cons (.ifs (.cmp .GtE (.bi .len (.cons (.attr (.loc 0) 0) .nil)) (.gconst (.int 9)))
  (.cons (.raise 2)
  .nil)
  .nil)
  (.cons (.expr (.call 4 (.cons (.loc 1) (.cons (.attr (.loc 0) 1) .nil))))
  (.cons (.expr (.mcall 80 (.loc 0) (.cons (.bin .Add (.mcall 89 (.loc 0) .nil) (.lst (.cons (.bi .list (.cons (.loc 1) .nil)) .nil))) (.cons (.attr (.loc 0) 1) .nil))))
  .nil)))⟩
noncomputable def f_T_leave : MFun := ⟨2, 3,
  (.cons (.expr (.mcall 81 (.loc 0) (.cons (.loc 1) .nil)))
  .wild)⟩
noncomputable def f_T_put : MFun := ⟨2, 3,
  (.cons (.ifs (.cmp .GtE (.attr (.loc 0) 1) (.gconst (.int 40)))
  (.cons (.raise 2)
  .nil)
  .nil)
  (.cons (.expr (.call 4 (.cons (.loc 1) (.cons (.bi .len (.cons (.attr (.loc 0) 0) .nil)) .nil))))
  (.cons (.assign 2 (.compz (.attr (.loc 0) 0) (.loc 1)))
  (.cons (.expr (.mcall 80 (.loc 0) (.cons (.loc 2) (.cons (.bin .Add (.attr (.loc 0) 1) (.const (.int 1))) .nil))))
  .nil))))⟩
noncomputable def f_T_take : MFun := ⟨2, 3,
  (.cons (.expr (.mcall 82 (.loc 0) (.cons (.loc 1) .nil)))
  .wild)⟩
noncomputable def f_T_bid : MFun := ⟨4, 5,
  (.cons (.expr (.mcall 81 (.loc 0) (.cons (.loc 1) .nil)))
  (.cons (.expr (.mcall 82 (.loc 0) (.cons (.loc 2) .nil)))
  .wild))⟩
noncomputable def f_T_rows : MFun := ⟨1, 2,
  (.cons (.ret (.comp (.bi .list (.cons (.loc 1) .nil)) (.loc 1) (.iobj (.attr (.loc 0) 0)) (.const (.bool true))))
  .nil)⟩
noncomputable def tab : List (Nat × MFun) := [(1, f_is_number), (2, f_is_place), (3, f_need_bids), (4, f_need_row), (5, f_look), (6, f14_is_deal), (7, f_need_deal), (9, f14_gains), (10, f14_envies), (11, f14_fair), (13, f14_in_heaps), (18, f_shown), (19, f_number_of), (20, f_row_of), (21, f_read), (14, f14_in_rooms), (23, f14_law_cell), (26, f14_law_bids), (72, f_law_by_bids), (76, f_law_by_table), (77, f_law_raised), (78, f_law), (79, f_T___init__), (80, f_T_become), (81, f_T_need_person), (82, f_T_need_good), (83, f_T_come), (84, f_T_leave), (85, f_T_put), (86, f_T_take), (87, f_T_bid), (89, f_T_rows)]
noncomputable def F (f : Nat) : Option MFun := tab.lookup f
end Mine


-- part L14G
set_option maxRecDepth 4000
namespace Mine
open PySem
noncomputable def nm : Nat → List Str
  | 1 => [(PySem.Str.ofString "thing")]
  | 2 => [(PySem.Str.ofString "thing"), (PySem.Str.ofString "size")]
  | 3 => [(PySem.Str.ofString "row"), (PySem.Str.ofString "amount")]
  | 4 => [(PySem.Str.ofString "row"), (PySem.Str.ofString "size")]
  | 5 => [(PySem.Str.ofString "bids"), (PySem.Str.ofString "row")]
  | 6 => [(PySem.Str.ofString "bids"), (PySem.Str.ofString "heaps"), (PySem.Str.ofString "sums"), (PySem.Str.ofString "heap"), (PySem.Str.ofString "good")]
  | 7 => [(PySem.Str.ofString "bids"), (PySem.Str.ofString "heaps"), (PySem.Str.ofString "sums")]
  | 9 => [(PySem.Str.ofString "bids"), (PySem.Str.ofString "heaps"), (PySem.Str.ofString "sums")]
  | 10 => [(PySem.Str.ofString "bids"), (PySem.Str.ofString "heaps"), (PySem.Str.ofString "sums"), (PySem.Str.ofString "pairs"), (PySem.Str.ofString "person"), (PySem.Str.ofString "own"), (PySem.Str.ofString "other")]
  | 11 => [(PySem.Str.ofString "bids"), (PySem.Str.ofString "heaps"), (PySem.Str.ofString "sums"), (PySem.Str.ofString "times"), (PySem.Str.ofString "heap"), (PySem.Str.ofString "good")]
  | 13 => [(PySem.Str.ofString "bids"), (PySem.Str.ofString "heaps"), (PySem.Str.ofString "good"), (PySem.Str.ofString "worths"), (PySem.Str.ofString "whole")]
  | 18 => [(PySem.Str.ofString "bids")]
  | 19 => [(PySem.Str.ofString "word")]
  | 20 => [(PySem.Str.ofString "line")]
  | 21 => [(PySem.Str.ofString "text"), (PySem.Str.ofString "lines"), (PySem.Str.ofString "bids")]
  | 14 => [(PySem.Str.ofString "bids"), (PySem.Str.ofString "people"), (PySem.Str.ofString "goods"), (PySem.Str.ofString "worths"), (PySem.Str.ofString "places"), (PySem.Str.ofString "paid"), (PySem.Str.ofString "whole"), (PySem.Str.ofString "heaps"), (PySem.Str.ofString "place")]
  | 23 => [(PySem.Str.ofString "_law_script"), (PySem.Str.ofString "_law_k")]
  | 26 => [(PySem.Str.ofString "_law_which"), (PySem.Str.ofString "_law_cell_here")]
  | 72 => [(PySem.Str.ofString "_law_way"), (PySem.Str.ofString "_law_bids_here")]
  | 76 => [(PySem.Str.ofString "_law_which"), (PySem.Str.ofString "_law_cell_here"), (PySem.Str.ofString "_law_table")]
  | 77 => [(PySem.Str.ofString "_law_which"), (PySem.Str.ofString "_law_way"), (PySem.Str.ofString "_law_cell_here")]
  | 78 => [(PySem.Str.ofString "_law_script"), (PySem.Str.ofString "_law_which")]
  | 79 => [(PySem.Str.ofString "self")]
  | 80 => [(PySem.Str.ofString "self"), (PySem.Str.ofString "bids"), (PySem.Str.ofString "goods")]
  | 81 => [(PySem.Str.ofString "self"), (PySem.Str.ofString "person")]
  | 82 => [(PySem.Str.ofString "self"), (PySem.Str.ofString "good")]
  | 83 => [(PySem.Str.ofString "self"), (PySem.Str.ofString "row")]
  | 84 => [(PySem.Str.ofString "self"), (PySem.Str.ofString "person"), (PySem.Str.ofString "bids")]
  | 85 => [(PySem.Str.ofString "self"), (PySem.Str.ofString "column"), (PySem.Str.ofString "bids")]
  | 86 => [(PySem.Str.ofString "self"), (PySem.Str.ofString "good"), (PySem.Str.ofString "bids")]
  | 87 => [(PySem.Str.ofString "self"), (PySem.Str.ofString "person"), (PySem.Str.ofString "good"), (PySem.Str.ofString "amount"), (PySem.Str.ofString "bids")]
  | 89 => [(PySem.Str.ofString "self")]
  | _ => []
noncomputable def exs : List Nat := [0, 1, 2, 3, 4, 5, 6, 7, 8]
noncomputable def gm : GMap := [((PySem.Str.ofString "is_number"), .fn 1),
  ((PySem.Str.ofString "is_place"), .fn 2),
  ((PySem.Str.ofString "need_bids"), .fn 3),
  ((PySem.Str.ofString "need_row"), .fn 4),
  ((PySem.Str.ofString "look"), .fn 5),
  ((PySem.Str.ofString "is_deal"), .fn 6),
  ((PySem.Str.ofString "need_deal"), .fn 7),
  ((PySem.Str.ofString "gains"), .fn 9),
  ((PySem.Str.ofString "envies"), .fn 10),
  ((PySem.Str.ofString "fair"), .fn 11),
  ((PySem.Str.ofString "in_heaps"), .fn 13),
  ((PySem.Str.ofString "shown"), .fn 18),
  ((PySem.Str.ofString "number_of"), .fn 19),
  ((PySem.Str.ofString "row_of"), .fn 20),
  ((PySem.Str.ofString "read"), .fn 21),
  ((PySem.Str.ofString "in_rooms"), .fn 14),
  ((PySem.Str.ofString "_law_cell"), .fn 23),
  ((PySem.Str.ofString "_law_bids"), .fn 26),
  ((PySem.Str.ofString "_law_by_bids"), .fn 72),
  ((PySem.Str.ofString "_law_by_table"), .fn 76),
  ((PySem.Str.ofString "_law_raised"), .fn 77),
  ((PySem.Str.ofString "law"), .fn 78),
  ((PySem.Str.ofString "Table"), .tab 79),
  ((PySem.Str.ofString "Table.become"), .meth 80),
  ((PySem.Str.ofString "Table.need_person"), .meth 81),
  ((PySem.Str.ofString "Table.need_good"), .meth 82),
  ((PySem.Str.ofString "Table.come"), .meth 83),
  ((PySem.Str.ofString "Table.leave"), .meth 84),
  ((PySem.Str.ofString "Table.put"), .meth 85),
  ((PySem.Str.ofString "Table.take"), .meth 86),
  ((PySem.Str.ofString "Table.bid"), .meth 87),
  ((PySem.Str.ofString "Table.rows"), .meth 89),
  ((PySem.Str.ofString "_law_kinds"), .kinds),
  ((PySem.Str.ofString "MOST_PEOPLE"), .const (.int 9)),
  ((PySem.Str.ofString "MOST_GOODS"), .const (.int 40)),
  ((PySem.Str.ofString "MOST_BID"), .const (.int 1000000000000)),
  ((PySem.Str.ofString "FIGURES"), .const (.str [48, 49, 50, 51, 52, 53, 54, 55, 56, 57])),
  ((PySem.Str.ofString "MOST_FIGURES"), .const (.int 13)),
  ((PySem.Str.ofString "len"), .bi "len"),
  ((PySem.Str.ofString "sum"), .bi "sum"),
  ((PySem.Str.ofString "max"), .bi "max"),
  ((PySem.Str.ofString "all"), .bi "all"),
  ((PySem.Str.ofString "isinstance"), .bi "isinstance"),
  ((PySem.Str.ofString "int"), .ty "int"),
  ((PySem.Str.ofString "str"), .ty "str"),
  ((PySem.Str.ofString "list"), .ty "list"),
  ((PySem.Str.ofString "bool"), .ty "bool"),
  ((PySem.Str.ofString "range"), .ty "range"),
  ((PySem.Str.ofString "zip"), .ty "zip"),
  ((PySem.Str.ofString "ValueError"), .ty "ValueError"),
  ((PySem.Str.ofString "SplitError"), .cls 0),
  ((PySem.Str.ofString "NoPeople"), .cls 1),
  ((PySem.Str.ofString "TooMany"), .cls 2),
  ((PySem.Str.ofString "Uneven"), .cls 3),
  ((PySem.Str.ofString "BadBid"), .cls 4),
  ((PySem.Str.ofString "NoDeal"), .cls 5),
  ((PySem.Str.ofString "NoPerson"), .cls 6),
  ((PySem.Str.ofString "NoGood"), .cls 7),
  ((PySem.Str.ofString "NoText"), .cls 8)]
end Mine


-- part L14
set_option maxRecDepth 4000
set_option linter.unusedVariables false
set_option linter.unusedSimpArgs false
namespace Mine
open PySem (Operator UnaryOp CmpOp)

noncomputable def tl14 : MStmt → MStmt
  | .cons _ r => r
  | _ => .nil
noncomputable def isExc {α : Type} (c : Nat) : Res α → Bool
  | .exc k _ => k == c
  | .ok _ _ => false
  | .stuck => false
noncomputable def IsX {α : Type} (k : Nat) (r : Res α) : Prop := ∃ h, r = .exc k h
theorem isX_of {α : Type} {k : Nat} {r : Res α} (h : isExc k r = true) : IsX k r := by
  cases r with
  | exc c h' => exact ⟨h', by rw [show c = k from by simpa [isExc] using h]⟩
  | ok _ _ => cases h
  | stuck => cases h
theorem IsX.bind {α β : Type} {k : Nat} {r : Res α} {f : α → MH → Res β} (h : IsX k r) : IsX k (r.bind f) := by
  obtain ⟨h', rfl⟩ := h; exact ⟨h', rfl⟩
section
variable {C : Cf} {W k : Nat} {ρ ρ' : Rho} {h h' : MH}
theorem x_next {s r : MStmt} (e : exec C W s ρ h = .ok (.next, ρ') h') (g : IsX k (exec C W r ρ' h')) : IsX k (exec C W (.cons s r) ρ h) := by
  rw [X_cons', e]; exact g
theorem x_exc {s r : MStmt} (e : IsX k (exec C W s ρ h)) : IsX k (exec C W (.cons s r) ρ h) := by
  rw [X_cons']; exact e.bind
theorem x_call {F : Nat → Option MFun} {n f : Nat} {vs : List Val} {d : MFun} (e : F f = some d) (l : vs.length = d.np) (g : IsX k (exec (callN F W n) W d.body (vs.map some ++ List.replicate (d.ns - d.np) none) h)) : IsX k (callN F W (n + 1) f vs h) := by
  rw [callN_def e l]; exact g.bind
theorem x_if {c : MExpr} {t e : MStmt} {b : Bool} (hT : (sem C c).T ρ h = .ok b h) (g : IsX k (exec C W (if b then t else e) ρ h)) : IsX k (exec C W (.ifs c t e) ρ h) := by
  rw [X_ifs, hT, Res.bind_ok]; cases b <;> exact g
theorem x_expr {f : Nat} {args : MExpr} {vs : List Val} (e : (sem C args).Es ρ h = .ok vs h') (g : IsX k (C f vs h')) : IsX k (exec C W (.expr (.call f args)) ρ h) := by
  rw [X_expr, E_call, e]; exact g.bind
theorem x_skip {c : MExpr} {t : MStmt} (hT : (sem C c).T ρ h = .ok false h) : exec C W (.ifs c t .nil) ρ h = .ok (.next, ρ) h := by
  rw [X_ifs, hT]; rfl
end

section
variable {xs : List Val} {c : Int}

theorem all_lt {f : Nat → Bool} {n : Nat} (h : ((List.range n).all f) = true) {k : Nat} (hk : k < n) : f k = true := List.all_eq_true.mp h k (List.mem_range.mpr hk)

/- the bids -/
theorem bids_0 : callN F 10 17 26 [.int 0, .int c] [.ro xs] = .ok (.ref 1) [.ro xs, .list []] := by kernel_rfl
noncomputable def B1 (xs : List Val) (n : Nat) : MH := [.ro xs, .list [.int 0], .list [.ref 1], .list (List.replicate n (.ref 1))]
noncomputable def B2 (xs : List Val) (n : Nat) : MH := [.ro xs, .list [.int 0], .list (List.replicate n (.int 0)), .list [.ref 2]]
noncomputable def B3 (xs : List Val) (n : Nat) : MH := [.ro xs, .list [.int 1, .int 2], .list [.int 1], .list (List.replicate n (.int 1)), .list [.ref 1, .ref 3]]
noncomputable def odd5 : List Val := [.int (-1), .int 1000000000001, .bool true, .str [49], .none]
noncomputable def B4 (xs : List Val) (n : Nat) : MH := [.ro xs, .list odd5, .list [.int 1, odd5.getD n .none], .list [.ref 2]]

theorem bids_1 {r : Nat} (e1 : c % 2 = 0) (e2 : c / 2 % 3 = r) (hr : r < 3) : callN F 10 17 26 [.int 1, .int c] [.ro xs] = .ok (.ref 3) (B1 xs (10 + r)) := by
  rw [callN_def (show F 26 = some f14_law_bids from rfl) rfl]
  match r, hr with
  | 0, _ => simp [f14_law_bids, e1, e2, newList, newObj, lim, mulRI, B1]
  | 1, _ => simp [f14_law_bids, e1, e2, newList, newObj, lim, mulRI, B1]
  | 2, _ => simp [f14_law_bids, e1, e2, newList, newObj, lim, mulRI, B1]
theorem bids_2 {r : Nat} (e1 : c % 2 = 1) (e2 : c / 2 % 3 = r) (hr : r < 3) : callN F 10 17 26 [.int 1, .int c] [.ro xs] = .ok (.ref 3) (B2 xs (41 + r)) := by
  rw [callN_def (show F 26 = some f14_law_bids from rfl) rfl]
  match r, hr with
  | 0, _ => simp [f14_law_bids, e1, e2, newList, newObj, lim, mulRI, B2]
  | 1, _ => simp [f14_law_bids, e1, e2, newList, newObj, lim, mulRI, B2]
  | 2, _ => simp [f14_law_bids, e1, e2, newList, newObj, lim, mulRI, B2]
theorem bids_3 {r : Nat} (e1 : c % 2 = r) (hr : r < 2) : callN F 10 17 26 [.int 2, .int c] [.ro xs] = .ok (.ref 4) (B3 xs (r * 2 + 1)) := by
  rw [callN_def (show F 26 = some f14_law_bids from rfl) rfl]
  match r, hr with
  | 0, _ => simp [f14_law_bids, e1, newList, newObj, lim, mulRI, B3]
  | 1, _ => simp [f14_law_bids, e1, newList, newObj, lim, mulRI, B3]
theorem bids_4 {r : Nat} (e1 : c % 5 = r) (hr : r < 5) : callN F 10 17 26 [.int 3, .int c] [.ro xs] = .ok (.ref 3) (B4 xs r) := by
  rw [callN_def (show F 26 = some f14_law_bids from rfl) rfl]
  match r, hr with
  | 0, _ => simp [f14_law_bids, e1]; kernel_rfl
  | 1, _ => simp [f14_law_bids, e1]; kernel_rfl
  | 2, _ => simp [f14_law_bids, e1]; kernel_rfl
  | 3, _ => simp [f14_law_bids, e1]; kernel_rfl
  | 4, _ => simp [f14_law_bids, e1]; kernel_rfl

theorem by_0 : ((List.range 6).all fun way => isExc 1 (callN F 10 17 72 [.int way, .ref 1] [.ro xs, .list []])) = true := by kernel_rfl
theorem by_1 : ((List.range 3).all fun r => (List.range 6).all fun way => isExc 2 (callN F 10 17 72 [.int way, .ref 3] (B1 xs (10 + r)))) = true := by kernel_rfl
theorem by_2 : ((List.range 3).all fun r => (List.range 6).all fun way => isExc 2 (callN F 10 17 72 [.int way, .ref 3] (B2 xs (41 + r)))) = true := by kernel_rfl
theorem by_3 : ((List.range 2).all fun r => (List.range 6).all fun way => isExc 3 (callN F 10 17 72 [.int way, .ref 4] (B3 xs (r * 2 + 1)))) = true := by kernel_rfl
theorem by_4 : ((List.range 5).all fun r => (List.range 6).all fun way => isExc 4 (callN F 10 17 72 [.int way, .ref 3] (B4 xs r))) = true := by kernel_rfl

theorem raised_lt {k : Nat} {w y : Int} {v : Val} {h1 : MH} (hw : w < 4) (e1 : callN F 10 17 26 [.int w, .int c] [.ro xs] = .ok v h1) (e2 : isExc k (callN F 10 17 72 [.int y, v] h1) = true) : IsX k (callN F 10 18 77 [.int w, .int y, .int c] [.ro xs]) := by
  refine x_call (show F 77 = some f_law_raised from rfl) rfl (x_exc (x_if (b := true) ?_ (x_exc ?_)))
  · show Res.opt (some (decide (w < 4))) _ = _
    rw [decide_eq_true hw]; rfl
  · obtain ⟨h2, e2⟩ := isX_of e2
    exact ⟨h2, by simp [e1, e2]⟩

theorem raised_0 {y : Nat} (hy : y < 6) : IsX 1 (callN F 10 18 77 [.int 0, .int y, .int c] [.ro xs]) := raised_lt (by decide) bids_0 (all_lt by_0 hy)
theorem raised_1 {y : Nat} (hy : y < 6) : IsX 2 (callN F 10 18 77 [.int 1, .int y, .int c] [.ro xs]) := by
  obtain ⟨r, hr⟩ := Int.eq_ofNat_of_zero_le (Int.emod_nonneg (c / 2) (b := 3) (by decide))
  have h3 : r < 3 := by have := Int.emod_lt_of_pos (c / 2) (b := 3) (by decide); omega
  rcases Int.emod_two_eq c with h | h
  · exact raised_lt (by decide) (bids_1 h hr h3) (all_lt (all_lt by_1 h3) hy)
  · exact raised_lt (by decide) (bids_2 h hr h3) (all_lt (all_lt by_2 h3) hy)
theorem raised_2 {y : Nat} (hy : y < 6) : IsX 3 (callN F 10 18 77 [.int 2, .int y, .int c] [.ro xs]) := by
  rcases Int.emod_two_eq c with h | h
  · exact raised_lt (by decide) (bids_3 (r := 0) h (by decide)) (all_lt (all_lt by_3 (by decide)) hy)
  · exact raised_lt (by decide) (bids_3 (r := 1) h (by decide)) (all_lt (all_lt by_3 (k := 1) (by decide)) hy)
theorem raised_3 {y : Nat} (hy : y < 6) : IsX 4 (callN F 10 18 77 [.int 3, .int y, .int c] [.ro xs]) := by
  obtain ⟨r, hr⟩ := Int.eq_ofNat_of_zero_le (Int.emod_nonneg c (b := 5) (by decide))
  have h3 : r < 5 := by have := Int.emod_lt_of_pos c (b := 5) (by decide); omega
  exact raised_lt (by decide) (bids_4 hr h3) (all_lt (all_lt by_4 h3) hy)
theorem by_5 : ((List.range 6).all fun way => isExc 5 (callN F 10 18 77 [.int 4, .int way, .int c] [.ro xs])) = true := by kernel_rfl
theorem raised_4 {y : Nat} (hy : y < 6) : IsX 5 (callN F 10 18 77 [.int 4, .int y, .int c] [.ro xs]) := isX_of (all_lt by_5 hy)

/- the texts -/
noncomputable def tx5 : List Val := [.str [120], .str [48, 49, 10], .str [49], .str [49, 32, 32, 50, 10], .str [32, 10]]
theorem by_8 : ((List.range 5).all fun r => isExc 8 (callN F 10 17 21 [tx5.getD r .none] [.ro xs, .list tx5])) = true := by kernel_rfl
theorem raised_7 {y : Nat} : IsX 8 (callN F 10 18 77 [.int 7, .int y, .int c] [.ro xs]) := by
  obtain ⟨r, hr⟩ := Int.eq_ofNat_of_zero_le (Int.emod_nonneg c (b := 5) (by decide))
  have h3 : r < 5 := by have := Int.emod_lt_of_pos c (b := 5) (by decide); omega
  refine x_call (show F 77 = some f_law_raised from rfl) rfl (x_next (x_skip rfl) (x_next (x_skip rfl) (x_next (x_skip rfl) (x_exc (x_if (b := true) rfl (x_exc ?_))))))
  obtain ⟨h2, e2⟩ := isX_of (all_lt (by_8 (xs := xs)) h3)
  refine ⟨h2, ?_⟩
  have e : subV [.ro xs, .list tx5] (.ref 1) (.int (c % 5)) = some (tx5.getD r .none) := by
    rw [hr]
    match r, h3 with
    | 0, _ => rfl
    | 1, _ => rfl
    | 2, _ => rfl
    | 3, _ => rfl
    | 4, _ => rfl
  have e : (sem (callN F 10 17) (.sub (.lst (.cons (.const (.str [120])) (.cons (.const (.str [48, 49, 10])) (.cons (.const (.str [49])) (.cons (.const (.str [49, 32, 32, 50, 10])) (.cons (.const (.str [32, 10])) .nil)))))) (.bin .Mod (.loc 2) (.const (.int 5))))).E [some (.int 7), some (.int y), some (.int c)] [.ro xs] = .ok (tx5.getD r .none) [.ro xs, .list tx5] := by
    show Res.opt (subV [.ro xs, .list tx5] (.ref 1) (.int (c % 5))) _ = _
    rw [e]; rfl
  rw [X_expr, E_call, Es_cons]
  show (((((sem (callN F 10 17) _).E [some (.int 7), some (.int y), some (.int c)] [.ro xs]).bind _).bind _).bind _) = _
  rw [e]
  show ((callN F 10 17 21 [tx5.getD r .none] [.ro xs, .list tx5]).bind _) = _
  rw [e2]; rfl

/- the table -/
noncomputable def T4 (xs : List Val) : MH := [.ro xs, .inst [some (.ref 3), some (.int 0), some (.ref 4)], .aux, .list [], .list []]
noncomputable def T7 (xs : List Val) : MH := [.ro xs, .inst [some (.ref 6), some (.int 1), some (.ref 4)], .aux, .list [], .list [.ref 7], .list [], .list [], .tup [.ref 3, .int 0]]
noncomputable def T8 (xs : List Val) (v : Int) : MH := T7 xs ++ [.list [.int v]]
noncomputable def T13 (xs : List Val) (v : Int) : MH := [.ro xs, .inst [some (.ref 12), some (.int 1), some (.ref 4)], .aux, .list [], .list [.ref 7, .ref 13], .list [], .list [], .tup [.ref 3, .int 0], .list [.int v], .list [], .list [.int v], .list [.ref 10], .list [.ref 10], .tup [.ref 6, .int 1]]

theorem isnum14 {n : Nat} {h : MH} {c : Int} : callN F 10 (n + 1) 1 [.int c] h = .ok (.bool true) h := by kernel_rfl
theorem isplace14 {n : Nat} {h : MH} {x m : Int} : callN F 10 (n + 2) 2 [.int x, .int m] h = .ok (.bool (decide (0 ≤ x ∧ x < m))) h := by
  rw [callN_def (show F 2 = some f_is_place from rfl) rfl]
  simp [f_is_place, isnum14]
  by_cases h0 : 0 ≤ x <;> by_cases h1 : x < m <;> simp [h0, h1]
theorem bids14 {v : Int} (h1 : 0 ≤ v) (h2 : v < 100) : callN F 10 14 3 [.ref 8] (T8 xs v) = .ok .none (T8 xs v) := by
  rw [callN_def (show F 3 = some f_need_bids from rfl) rfl]
  show (exec (callN F 10 13) 10 f_need_bids.body [some (.ref 8), none] (T8 xs v)).bind retOf = _
  rw [f_need_bids, X_cons', X_fors]
  rw [show (sem (callN F 10 13) (.iobj (.loc 0))).I [some (.ref 8), none] (T8 xs v) = .ok ([.int v], fun h' => decide (h'[8]? = some (.list [.int v]))) (T8 xs v) from rfl]
  simp only [Res.bind_ok, forLoop, forStep, bindTgt]
  have e : exec (callN F 10 13) 10 (.cons (.ifs (.or (.un .Not (.call 1 (.cons (.loc 1) .nil))) (.un .Not (.cmp2 .LtE .LtE (.const (.int 0)) (.loc 1) (.gconst (.int 1000000000000))))) (.cons (.raise 4) .nil) .nil) .nil) ([some (.ref 8), none].set 1 (some (.int v))) (T8 xs v) = .ok (.next, [some (.ref 8), some (.int v)]) (T8 xs v) := by
    have h3 : v ≤ 1000000000000 := by omega
    simp [isnum14, h1, h3]
  rw [e]
  simp [T8, T7]
theorem come_row {v : Int} (h1 : 0 ≤ v) (h2 : v < 100) : callN F 10 15 4 [.ref 8, .int 1] (T8 xs v) = .ok .none (T8 xs v) := by
  rw [callN_def (show F 4 = some f_need_row from rfl) rfl]
  show (exec (callN F 10 14) 10 f_need_row.body [some (.ref 8), some (.int 1)] (T8 xs v)).bind retOf = _
  rw [f_need_row, X_cons', X_ifs, show (sem (callN F 10 14) (.cmp .NotEq (.bi .len (.cons (.loc 0) .nil)) (.loc 1))).T [some (.ref 8), some (.int 1)] (T8 xs v) = .ok false (T8 xs v) from rfl]
  simp [bids14 h1 h2]
theorem come_ok {v : Int} (h1 : 0 ≤ v) (h2 : v < 100) : callN F 10 16 83 [.ref 1, .ref 8] (T8 xs v) = .ok .none (T13 xs v) := by
  rw [callN_def (show F 83 = some f_T_come from rfl) rfl]
  show (exec (callN F 10 15) 10 f_T_come.body [some (.ref 1), some (.ref 8)] (T8 xs v)).bind retOf = _
  rw [show exec (callN F 10 15) 10 f_T_come.body [some (.ref 1), some (.ref 8)] (T8 xs v) = ((callN F 10 15 4 [.ref 8, .int 1] (T8 xs v)).bind fun _ h => .ok (.next, [some (.ref 1), some (.ref 8)]) h).bind (thenX (callN F 10 15) 10 (tl14 (tl14 f_T_come.body))) from by kernel_rfl]
  rw [come_row h1 h2]
  kernel_rfl

theorem person_bad {v p : Int} (hp : ¬ (0 ≤ p ∧ p < 1)) : IsX 6 (callN F 10 15 81 [.ref 1, .int p] (T13 xs v)) := by
  refine x_call (show F 81 = some f_T_need_person from rfl) rfl (x_exc (x_if (b := true) ?_ (x_exc ⟨_, rfl⟩)))
  show (((callN F 10 14 2 [.int p, .int 1] (T13 xs v)).bind fun v h => Res.opt (truthyV h v) h).bind fun b h => .ok (!b) h) = _
  rw [isplace14, decide_eq_false hp]; rfl
theorem person_0 {v : Int} : callN F 10 15 81 [.ref 1, .int 0] (T13 xs v) = .ok .none (T13 xs v) := by kernel_rfl
theorem good_bad {v p : Int} (hp : ¬ (0 ≤ p ∧ p < 1)) : IsX 7 (callN F 10 15 82 [.ref 1, .int p] (T13 xs v)) := by
  refine x_call (show F 82 = some f_T_need_good from rfl) rfl (x_exc (x_if (b := true) ?_ (x_exc ⟨_, rfl⟩)))
  show (((callN F 10 14 2 [.int p, .int 1] (T13 xs v)).bind fun v h => Res.opt (truthyV h v) h).bind fun b h => .ok (!b) h) = _
  rw [isplace14, decide_eq_false hp]; rfl
theorem leave_bad {v p : Int} (hp : ¬ (0 ≤ p ∧ p < 1)) : IsX 6 (callN F 10 16 84 [.ref 1, .int p] (T13 xs v)) := by
  refine x_call (show F 84 = some f_T_leave from rfl) rfl (x_exc ?_)
  show IsX 6 ((callN F 10 15 81 [.ref 1, .int p] (T13 xs v)).bind _)
  exact (person_bad hp).bind
theorem take_bad {v p : Int} (hp : ¬ (0 ≤ p ∧ p < 1)) : IsX 7 (callN F 10 16 86 [.ref 1, .int p] (T13 xs v)) := by
  refine x_call (show F 86 = some f_T_take from rfl) rfl (x_exc ?_)
  show IsX 7 ((callN F 10 15 82 [.ref 1, .int p] (T13 xs v)).bind _)
  exact (good_bad hp).bind
theorem bid_bad {v p q r : Int} (hp : ¬ (0 ≤ p ∧ p < 1)) : IsX 6 (callN F 10 16 87 [.ref 1, .int p, .int q, .int r] (T13 xs v)) := by
  refine x_call (show F 87 = some f_T_bid from rfl) rfl (x_exc ?_)
  show IsX 6 ((callN F 10 15 81 [.ref 1, .int p] (T13 xs v)).bind _)
  exact (person_bad hp).bind
theorem bid_bad2 {v q r : Int} (hp : ¬ (0 ≤ q ∧ q < 1)) : IsX 7 (callN F 10 16 87 [.ref 1, .int 0, .int q, .int r] (T13 xs v)) := by
  refine x_call (show F 87 = some f_T_bid from rfl) rfl (x_next (ρ' := [some (.ref 1), some (.int 0), some (.int q), some (.int r), none]) (h' := T13 xs v) ?_ (x_exc ?_))
  · show ((callN F 10 15 81 [.ref 1, .int 0] (T13 xs v)).bind _) = _
    rw [person_0]; rfl
  · show IsX 7 ((callN F 10 15 82 [.ref 1, .int q] (T13 xs v)).bind _)
    exact (good_bad hp).bind

theorem table_x {k : Nat} {w : Int} (g : IsX k (exec (callN F 10 16) 10 (tl14 (tl14 (tl14 f_law_by_table.body))) [some (.int w), some (.int c), some (.ref 1)] (T13 xs (c % 100)))) : IsX k (callN F 10 17 76 [.int w, .int c] [.ro xs]) := by
  have h1 := Int.emod_nonneg c (b := 100) (by decide)
  have h2 := Int.emod_lt_of_pos c (b := 100) (by decide)
  refine x_call (show F 76 = some f_law_by_table from rfl) rfl (x_next (ρ' := [some (.int w), some (.int c), some (.ref 1)]) (h' := T4 xs) (by kernel_rfl) (x_next (ρ' := [some (.int w), some (.int c), some (.ref 1)]) (h' := T7 xs) (by kernel_rfl) (x_next (ρ' := [some (.int w), some (.int c), some (.ref 1)]) (h' := T13 xs (c % 100)) ?_ g)))
  show ((callN F 10 16 83 [.ref 1, .ref 8] (T8 xs (c % 100))).bind _) = _
  rw [come_ok h1 h2]; rfl

theorem by_table_5 : IsX 6 (callN F 10 17 76 [.int 5, .int c] [.ro xs]) := by
  have h1 := Int.emod_nonneg (c / 2) (b := 1000) (by decide)
  refine table_x ?_
  cases h : (c % 2 == 0) with
  | true =>
    refine x_exc (x_if (b := true) ?_ (x_exc ?_))
    · show Res.opt (some (c % 2 == 0)) _ = _
      rw [h]; rfl
    · show IsX 6 ((callN F 10 16 84 [.ref 1, .int (1 + c / 2 % 1000)] (T13 xs (c % 100))).bind _)
      exact (leave_bad (by omega)).bind
  | false =>
    refine x_next (x_skip ?_) (x_exc (x_if (b := true) rfl (x_exc ?_)))
    · show Res.opt (some (c % 2 == 0)) _ = _
      rw [h]; rfl
    · show IsX 6 ((callN F 10 16 87 [.ref 1, .int (-1 - c / 2 % 1000), .int 0, .int 5] (T13 xs (c % 100))).bind _)
      exact (bid_bad (by omega)).bind
theorem by_table_6 : IsX 7 (callN F 10 17 76 [.int 6, .int c] [.ro xs]) := by
  have h1 := Int.emod_nonneg (c / 2) (b := 1000) (by decide)
  refine table_x (x_next (x_skip rfl) (x_next (x_skip rfl) ?_))
  cases h : (c % 2 == 0) with
  | true =>
    refine x_exc (x_if (b := true) ?_ (x_exc ?_))
    · show Res.opt (some (c % 2 == 0)) _ = _
      rw [h]; rfl
    · show IsX 7 ((callN F 10 16 86 [.ref 1, .int (1 + c / 2 % 1000)] (T13 xs (c % 100))).bind _)
      exact (take_bad (by omega)).bind
  | false =>
    refine x_next (x_skip ?_) (x_exc ?_)
    · show Res.opt (some (c % 2 == 0)) _ = _
      rw [h]; rfl
    · show IsX 7 ((callN F 10 16 87 [.ref 1, .int 0, .int (-1 - c / 2 % 1000), .int 5] (T13 xs (c % 100))).bind _)
      exact (bid_bad2 (by omega)).bind
theorem raised_5 {y : Nat} : IsX 6 (callN F 10 18 77 [.int 5, .int y, .int c] [.ro xs]) := by
  refine x_call (show F 77 = some f_law_raised from rfl) rfl (x_next (x_skip rfl) (x_next (x_skip rfl) (x_next (x_skip rfl) (x_next (x_skip rfl) (x_exc ?_)))))
  exact x_expr (vs := [.int 5, .int c]) (h' := [.ro xs]) rfl by_table_5
theorem raised_6 {y : Nat} : IsX 7 (callN F 10 18 77 [.int 6, .int y, .int c] [.ro xs]) := by
  refine x_call (show F 77 = some f_law_raised from rfl) rfl (x_next (x_skip rfl) (x_next (x_skip rfl) (x_next (x_skip rfl) (x_next (x_skip rfl) (x_exc ?_)))))
  exact x_expr (vs := [.int 6, .int c]) (h' := [.ro xs]) rfl by_table_6
theorem raised {w : Nat} (hw : w < 8) {y : Nat} (hy : y < 6) : IsX (w + 1) (callN F 10 18 77 [.int w, .int y, .int c] [.ro xs]) := by
  match w, hw with
  | 0, _ => exact raised_0 hy
  | 1, _ => exact raised_1 hy
  | 2, _ => exact raised_2 hy
  | 3, _ => exact raised_3 hy
  | 4, _ => exact raised_4 hy
  | 5, _ => exact raised_5
  | 6, _ => exact raised_6
  | 7, _ => exact raised_7

/- the law -/
noncomputable def cell0 (xs : List Int) (k : Nat) : Int := if k < xs.length then xs.getD k 0 else 0
theorem sub14 {xs : List Int} {k : Nat} (hk : k < xs.length) : subV [.ro (xs.map .int)] (.ref 0) (.int k) = some (.int (xs.getD k 0)) := by
  simp [subV, seqOf, idxOf, hk]
theorem cell14 {n : Nat} {xs : List Int} {k : Nat} : callN F 10 (n + 1) 23 [.ref 0, .int k] [.ro (xs.map .int)] = .ok (.int (cell0 xs k)) [.ro (xs.map .int)] := by
  rw [callN_def (show F 23 = some f14_law_cell from rfl) rfl]
  have hi : biV [.ro (xs.map .int)] .len [.ref 0] = .ok (.int xs.length) [.ro (xs.map .int)] := by simp [biV, bi1, biL, onRef, seqOf]
  unfold cell0
  by_cases h1 : k < xs.length
  · have h2 : (k : Int) < xs.length := by omega
    simp [f14_law_cell, hi, h1, h2, sub14 h1]
  · have h2 : ¬ (k : Int) < xs.length := by omega
    simp [f14_law_cell, hi, h1, h2]

noncomputable def KL (w : Nat) (σ : MH) : MH := σ ++ [.list (kindsL (w + 1))]
theorem kinds_eq {C : Cf} {w : Nat} (hw : w < 8) {r0 : Option Val} {r2 : Option Val} (σ : MH) : ∃ σ', tryK C 2 1 [r0, some (.int w), r2] (.exc (w + 1) σ) = .ok (.ret (.bool true), [r0, some (.int w), r2]) σ' := by
  have e1 : newList (kindsL (w + 1)) σ = .ok (.ref σ.length) (KL w σ) := rfl
  have e2 : evalE C (kComp 2 1) [r0, some (.int w), r2] (KL w σ) = .ok (.ref (KL w σ).length) (KL w σ ++ [.list (kindsL (w + 1))]) := by
    match w, hw with
    | 0, _ => rfl
    | 1, _ => rfl
    | 2, _ => rfl
    | 3, _ => rfl
    | 4, _ => rfl
    | 5, _ => rfl
    | 6, _ => rfl
    | 7, _ => rfl
  refine ⟨KL w σ ++ [.list (kindsL (w + 1))], ?_⟩
  unfold tryK
  simp only [e1, Res.bind_ok, e2]
  have g1 : seqOf (KL w σ ++ [.list (kindsL (w + 1))]) σ.length = some (true, kindsL (w + 1)) := by simp [seqOf, KL]
  have g2 : seqOf (KL w σ ++ [.list (kindsL (w + 1))]) (KL w σ).length = some (true, kindsL (w + 1)) := by simp [seqOf, KL]
  have e3 : eqV 8 (KL w σ ++ [.list (kindsL (w + 1))]) (.ref σ.length) (.ref (KL w σ).length) = some true := by
    rw [eqV, g1, g2]
    match w, hw with
    | 0, _ => rfl
    | 1, _ => rfl
    | 2, _ => rfl
    | 3, _ => rfl
    | 4, _ => rfl
    | 5, _ => rfl
    | 6, _ => rfl
    | 7, _ => rfl
  simp only [e3]; rfl

theorem run_ok (xs : List Int) (hl : xs.length ≤ 63) : ∃ h, callN F 10 19 78 [.ref 0] [.ro (xs.map .int)] = .ok (.bool true) h := by
  obtain ⟨w, hw⟩ := Int.eq_ofNat_of_zero_le (Int.emod_nonneg (cell0 xs 0) (b := 8) (by decide))
  have hw8 : w < 8 := by have := Int.emod_lt_of_pos (cell0 xs 0) (b := 8) (by decide); omega
  obtain ⟨y, hy⟩ := Int.eq_ofNat_of_zero_le (Int.emod_nonneg (cell0 xs 1) (b := 6) (by decide))
  have hy6 : y < 6 := by have := Int.emod_lt_of_pos (cell0 xs 1) (b := 6) (by decide); omega
  have c0 : callN F 10 18 23 [.ref 0, .int 0] [.ro (xs.map .int)] = .ok (.int (cell0 xs 0)) [.ro (xs.map .int)] := cell14 (k := 0)
  have c1 : callN F 10 18 23 [.ref 0, .int 1] [.ro (xs.map .int)] = .ok (.int (cell0 xs 1)) [.ro (xs.map .int)] := cell14 (k := 1)
  have c2 : callN F 10 18 23 [.ref 0, .int 2] [.ro (xs.map .int)] = .ok (.int (cell0 xs 2)) [.ro (xs.map .int)] := cell14 (k := 2)
  have r := raised (xs := xs.map .int) (c := cell0 xs 2) hw8 hy6
  rw [callN_def (show F 78 = some f_law from rfl) rfl]
  generalize callN F 10 18 = C at c0 c1 c2 r
  have r : IsX (w + 1) (exec C 10 (.cons (.expr (.call 77 (.cons (.loc 1) (.cons (.bin .Mod (.call 23 (.cons (.loc 0) (.cons (.const (.int 1)) .nil))) (.const (.int 6))) (.cons (.call 23 (.cons (.loc 0) (.cons (.const (.int 2)) .nil))) .nil))))) .nil) [some (.ref 0), some (.int w), none] [.ro (xs.map .int)]) :=
    x_exc (x_expr (vs := [.int w, .int y, .int (cell0 xs 2)]) (h' := [.ro (xs.map .int)]) (by simp [c1, c2, hy]) r)
  obtain ⟨σ, r⟩ := r
  obtain ⟨σ', k⟩ := kinds_eq (C := C) hw8 (r0 := some (.ref 0)) (r2 := none) σ
  refine ⟨σ', ?_⟩
  show (exec C 10 f_law.body [some (.ref 0), none, none] [.ro (xs.map .int)]).bind retOf = _
  rw [f_law, X_cons', X_assign]
  rw [show (sem C (.bin .Mod (.call 23 (.cons (.loc 0) (.cons (.const (.int 0)) .nil))) (.const (.int 8)))).E [some (.ref 0), none, none] [.ro (xs.map .int)] = .ok (.int w) [.ro (xs.map .int)] from by simp [c0, hw]]
  show ((exec C 10 (.cons _ _) [some (.ref 0), some (.int w), none] [.ro (xs.map .int)]).bind retOf) = _
  rw [X_cons', X_tryk, r, k]; rfl
end
end Mine


-- part head
namespace Mine
open PySem PySem.W PyProof.Rows PySem.Calls
noncomputable def qV : Program := PySem.W.view PySem.Challenge.pw_uf030031_14 [0, 2, 3, 4, 5, 6, 7, 8, 9, 10, 12, 13, 14, 15, 16, 17, 18, 19, 21, 22, 23, 24, 25, 26, 27, 29, 30, 32, 33, 34, 35, 36, 37, 39, 40, 41, 43, 45, 47, 48, 49, 50, 51, 52, 53]
set_option maxRecDepth 100000
theorem bootSize : ∀ w : World, ((boot_heap w.params).isNs mainGlobals && (Array.mk [] : Array GenState).size == 0, (boot_heap w.params).objs.size, (boot_heap w.params).nsMap mainGlobals "__annotations__") = (true, 11, some (.ref 6)) := by intro w; kernel_rfl
theorem leftV : LeftO PySem.Challenge.pw_uf030031_14 qV [] (fun s => xlAt Mine.qV [] s && recOk (RowW.records (OpenRow.toRowW PySem.Challenge.rw_uf030031_14.row)) s) (Hook.obs (exHook exs)) (Hook.val (exHook exs)) 4000 :=
  left_of_tree (by kernel_rfl) (by decide) (fun s => by kernel_rfl) bootSize (by intro w os; kernel_rfl)
theorem saidV : OpenLaw.wellSaid PySem.Challenge.rw_uf030031_14 = true := by kernel_rfl
end Mine

open PySem PySem.W PyProof.Rows
set_option maxRecDepth 100000 in
set_option maxHeartbeats 8000000 in
theorem PySem.Challenge.cw_uf030031_14_holds : PySem.Challenge.rw_uf030031_14.Holds := by
  w_on
  refine holds_law Mine.saidV fun said => ?_
  refine holds_open (q := Mine.qV) (loose := []) (Xt := (fun s => xlAt Mine.qV [] s && recOk (RowW.records (OpenRow.toRowW PySem.Challenge.rw_uf030031_14.row)) s)) (XP := XL Mine.qV []) (Yf := Hook.obs (Mine.exHook Mine.exs)) (Ya := Hook.val (Mine.exHook Mine.exs)) (YP := Hook.says (Mine.exHook Mine.exs)) (N := 4000) Mine.leftV (Hook.of (Mine.exHook Mine.exs)) (Hook.keeps (Mine.exHook Mine.exs)) (fun s e => xl_of s (Bool.and_eq_true_iff.mp e).1) XL.keeps (by rfl) (by rfl) (by rfl) (fun s e => recFacts_of (Bool.and_eq_true_iff.mp e).2) (by rfl) (by first | assumption | decide +kernel) (by decide +kernel) ⟨rfl, rfl, rfl, rfl, rfl, by decide +kernel⟩ ?hw ?hc
  case hw => w_witness2
  intro w s₀ s₁ mg mb G Y fa o pm cd doc dV kV ho hd hcd hD hmg hg args vals as hpre hlay hrd hwl hlo
  refine Ground.open G ?_
  intro T B D TE TW
  wrow_args hpre hlay hrd hwl hlo
  rename_i xs _ _ _ _ _ _ _ _ _ _ _ _ wl _ _ _ hc _
  have hl : xs.length ≤ 63 := by omega
  obtain ⟨h, run⟩ := Mine.run_ok xs hl
  refine enter_call (Mine.law_ends T (cs := Mine.exs) (nm := Mine.nm) (F := Mine.F) (g := Mine.gm) (f := 78) (W := 10) (k := 19) (by kernel_rfl) Y TE hg (by kernel_rfl) hmg wl (by decide) hl run ?_ ?_)
  · intro _; rfl
  · wrow_post
