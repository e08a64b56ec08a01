import PyProof.Rows.All
import Wide.All
import Open.Line
import KE.IntTextLaws
import PySem.Challenge.RW_uf030031_07
set_option Elab.async false
set_option genSizeOf false

-- part MiniDef
namespace Mine
open PySem (Operator UnaryOp CmpOp)

inductive Val where
  | none | bool (b : Bool) | int (i : Int) | str (s : List Nat) | ref (i : Nat)
  deriving DecidableEq

inductive MObj where
  | list (xs : List Val) | ro (xs : List Val) | tup (xs : List Val) | inst (fs : List (Option Val))
  deriving DecidableEq

noncomputable abbrev MH := List MObj
noncomputable abbrev Rho := List (Option Val)

inductive Res (α : Type) where
  | ok (a : α) (h : MH) | exc (c : Nat) (h : MH) | stuck

noncomputable def Res.bind {α β : Type} (r : Res α) (f : α → MH → Res β) : Res β :=
  match r with
  | .ok a h => f a h
  | .exc c h => .exc c h
  | .stuck => .stuck

@[simp] theorem Res.bind_ok {α β : Type} (a : α) (h : MH) (f : α → MH → Res β) : (Res.ok a h).bind f = f a h := rfl
@[simp] theorem Res.bind_exc {α β : Type} (c : Nat) (h : MH) (f : α → MH → Res β) : (Res.exc c h : Res α).bind f = .exc c h := rfl
@[simp] theorem Res.bind_stuck {α β : Type} (f : α → MH → Res β) : (Res.stuck : Res α).bind f = .stuck := rfl
theorem Res.bind_assoc {α β γ : Type} (r : Res α) (f : α → MH → Res β) (g : β → MH → Res γ) : (r.bind f).bind g = r.bind fun a h => (f a h).bind g := by
  cases r <;> rfl

noncomputable def Res.opt {α : Type} (o : Option α) (h : MH) : Res α := match o with | some a => .ok a h | none => .stuck
@[simp] theorem Res.opt_some {α : Type} (a : α) (h : MH) : Res.opt (some a) h = .ok a h := rfl
@[simp] theorem Res.opt_none {α : Type} (h : MH) : (Res.opt none h : Res α) = .stuck := rfl

inductive BI where
  | len | sum | min | max | int | str | all | list
  deriving DecidableEq
inductive Ty where
  | int | bool | list | tuple | str
  deriving DecidableEq
inductive Me where
  | append
  | join
  | split
  | sidx
  deriving DecidableEq

set_option genSizeOfSpec false in
set_option genInjectivity false in
inductive MExpr where
  | const (v : Val)
  | gconst (v : Val)
  | loc (i : Nat)
  | bin (op : Operator) (a b : MExpr)
  | un (op : UnaryOp) (a : MExpr)
  | and (a b : MExpr)
  | or (a b : MExpr)
  | cmp (op : CmpOp) (a b : MExpr)
  | cmp2 (op₁ op₂ : CmpOp) (a b c : MExpr)
  | isinst (t : Ty) (a : MExpr)
  | call (f : Nat) (args : MExpr)
  | bi (b : BI) (args : MExpr)
  | lrange (a : MExpr)
  | meth (m : Me) (o args : MExpr)
  | lst (es : MExpr)
  | tup (es : MExpr)
  | sub (o i : MExpr)
  | slice (o lo hi : MExpr)
  | srev (o : MExpr)
  | comp (elt tgt it cond : MExpr)
  | attr (o : MExpr) (k : Nat)
  | nil
  | cons (a b : MExpr)
  | irange (a : MExpr)
  | irange2 (a b : MExpr)
  | iobj (a : MExpr)
  | izip (a b : MExpr)

set_option genSizeOfSpec false in
set_option genInjectivity false in
inductive MStmt where
  | nil
  | cons (s r : MStmt)
  | assign (i : Nat) (e : MExpr)
  | asub (o i e : MExpr)
  | aattr (o : MExpr) (k : Nat) (e : MExpr)
  | atup (ts : List Nat) (e : MExpr)
  | expr (e : MExpr)
  | ifs (c : MExpr) (t e : MStmt)
  | fors (tgt it : MExpr) (b : MStmt)
  | whiles (c : MExpr) (b : MStmt)
  | ret (e : MExpr)
  | raise (c : Nat)
  | tryx (b : MStmt) (hs : List (Nat × Bool × Val))

inductive MFlow where
  | next | ret (v : Val)
  deriving DecidableEq

structure MFun where
  np : Nat
  ns : Nat
  body : MStmt

noncomputable abbrev Cf := Nat → List Val → MH → Res Val

noncomputable def lim : Nat := 1048576

noncomputable def seqOf (h : MH) (i : Nat) : Option (Bool × List Val) :=
  match h[i]? with
  | some (.list xs) => some (true, xs)
  | some (.ro xs) => some (true, xs)
  | some (.tup xs) => some (false, xs)
  | _ => none

noncomputable def truthyV (h : MH) : Val → Option Bool
  | .none => some false
  | .bool b => some b
  | .int i => some (i != 0)
  | .str s => some (!s.isEmpty)
  | .ref i => match seqOf h i with | some (true, xs) => some (!xs.isEmpty) | _ => none

noncomputable def eqL (f : Val → Val → Option Bool) : List Val → List Val → Option Bool
  | x :: xs, y :: ys => (f x y).bind fun b => (eqL f xs ys).map fun c => b && c
  | _, _ => some true

noncomputable def eqP (v w : Val) : Option Bool := match v with
  | .none => (match w with | .none => some true | .ref _ => none | .bool _ => some false | .int _ => some false | .str _ => some false)
  | .bool a => (match w with | .bool b => some (a == b) | .int b => some ((if a then 1 else 0) == b) | .ref _ => none | .none => some false | .str _ => some false)
  | .int a => (match w with | .int b => some (a == b) | .bool b => some (a == (if b then 1 else 0)) | .ref _ => none | .none => some false | .str _ => some false)
  | .str a => (match w with | .str b => some (a == b) | .ref _ => none | .none => some false | .bool _ => some false | .int _ => some false)
  | .ref _ => none

noncomputable def eqV : Nat → MH → Val → Val → Option Bool
  | 0, _, v, w => eqP v w
  | n + 1, h, v, w =>
    match v, w with
    | .ref i, .ref j =>
      match seqOf h i, seqOf h j with
      | some (k, xs), some (l, ys) => if k = l then (if xs.length = ys.length then eqL (eqV n h) xs ys else if k then some false else none) else some false
      | _, _ => none
    | .ref i, _ => (seqOf h i).map fun _ => false
    | _, .ref j => (seqOf h j).map fun _ => false
    | v, w => eqP v w

noncomputable def inL (h : MH) (v : Val) : List Val → Option Bool
  | [] => some false
  | x :: xs => (eqV 4 h x v).bind fun b => (inL h v xs).map fun c => b || c

noncomputable def cmpI : CmpOp → Int → Int → Option Bool
  | .Lt, a, b => some (decide (a < b))
  | .LtE, a, b => some (decide (a ≤ b))
  | .Gt, a, b => some (decide (a > b))
  | .GtE, a, b => some (decide (a ≥ b))
  | _, _, _ => none

noncomputable def isNone : Val → Bool
  | .none => true
  | _ => false

noncomputable def inS (v : Val) (s : List Nat) : Option Bool := match v with
  | .str x => (match x with | [] => none | c :: r => (match r with | [] => some (decide (c ∈ s)) | _ :: _ => none))
  | .none => none | .bool _ => none | .int _ => none | .ref _ => none
noncomputable def inV (h : MH) (v w : Val) : Option Bool := match w with
  | .ref i => (match seqOf h i with | some (true, xs) => inL h v xs | some (false, _) => none | none => none)
  | .str s => inS v s
  | .none => none | .bool _ => none | .int _ => none

noncomputable def cmpII (op : CmpOp) (v w : Val) : Option Bool := match v with
  | .int a => (match w with | .int b => cmpI op a b | .none => none | .bool _ => none | .str _ => none | .ref _ => none)
  | .none => none | .bool _ => none | .str _ => none | .ref _ => none
noncomputable def onNone (b : Bool) (w : Val) : Option Bool := match w with | .none => some b | .int _ => none | .bool _ => none | .str _ => none | .ref _ => none
noncomputable def cmpV (h : MH) (op : CmpOp) (v w : Val) : Option Bool := match op with
  | .Eq => eqV 8 h v w
  | .NotEq => (eqV 8 h v w).map (!·)
  | .Is => onNone (isNone v) w
  | .IsNot => onNone (!isNone v) w
  | .In => inV h v w
  | .NotIn => (inV h v w).map (!·)
  | .Lt => cmpII .Lt v w
  | .LtE => cmpII .LtE v w
  | .Gt => cmpII .Gt v w
  | .GtE => cmpII .GtE v w

noncomputable def mulOk (a b : Int) : Bool := decide (a.natAbs < 9223372036854775808) || decide (b.natAbs < 9223372036854775808)

noncomputable def newObj (o : MObj) (h : MH) : Res Val := .ok (.ref h.length) (h ++ [o])
noncomputable def newList (xs : List Val) (h : MH) : Res Val := if xs.length ≤ lim then newObj (.list xs) h else .stuck

noncomputable def addRR (h : MH) (i j : Nat) : Res Val :=
  match h[i]?, h[j]? with
  | some (.list xs), some (.list ys) => newList (xs ++ ys) h
  | _, _ => .stuck
noncomputable def mulRI (h : MH) (i : Nat) (n : Int) : Res Val :=
  match h[i]? with
  | some (.list xs) => if n ≤ lim ∧ -lim ≤ n then newList (List.replicate n.toNat xs).flatten h else .stuck
  | _ => .stuck

noncomputable def binI (h : MH) (op : Operator) (a b : Int) : Res Val := match op with
  | .Add => .ok (.int (a + b)) h
  | .Sub => .ok (.int (a - b)) h
  | .Mult => if mulOk a b then .ok (.int (a * b)) h else .stuck
  | .FloorDiv => if 0 < b ∧ b < 1073741824 then .ok (.int (a / b)) h else .stuck
  | .Mod => if 0 < b then .ok (.int (a % b)) h else .stuck
  | _ => .stuck
noncomputable def binV (h : MH) (op : Operator) (v w : Val) : Res Val := match v with
  | .int a => (match w with | .int b => binI h op a b | .none => .stuck | .bool _ => .stuck | .str _ => .stuck | .ref _ => .stuck)
  | .str a => (match w with
    | .str b => (match op with | .Add => if a.length + b.length ≤ lim then .ok (.str (a ++ b)) h else .stuck | _ => .stuck)
    | .none => .stuck | .bool _ => .stuck | .int _ => .stuck | .ref _ => .stuck)
  | .ref i => (match w with
    | .ref j => (match op with | .Add => addRR h i j | _ => .stuck)
    | .int n => (match op with | .Mult => mulRI h i n | _ => .stuck)
    | .none => .stuck | .bool _ => .stuck | .str _ => .stuck)
  | .none => .stuck
  | .bool _ => .stuck

noncomputable def unV (h : MH) : UnaryOp → Val → Res Val
  | .Not, v => match truthyV h v with | some b => .ok (.bool (!b)) h | none => .stuck
  | .USub, .int a => .ok (.int (-a)) h
  | _, _ => .stuck

noncomputable def isInstV (h : MH) (t : Ty) (v : Val) : Option Bool := match v with
  | .ref i => (seqOf h i).map fun p => match t with | .list => p.1 | .tuple => !p.1 | .int => false | .bool => false | .str => false
  | .none => some false
  | .bool _ => some (match t with | .int => true | .bool => true | .list => false | .tuple => false | .str => false)
  | .int _ => some (match t with | .int => true | .bool => false | .list => false | .tuple => false | .str => false)
  | .str _ => some (match t with | .str => true | .int => false | .bool => false | .list => false | .tuple => false)

noncomputable def intsOf : List Val → Option (List Int)
  | [] => some []
  | .int i :: r => (intsOf r).map (i :: ·)
  | _ :: _ => none
noncomputable def boolsOf : List Val → Option (List Bool)
  | [] => some []
  | .bool i :: r => (boolsOf r).map (i :: ·)
  | _ :: _ => none
noncomputable def strsOf : List Val → Option (List (List Nat))
  | [] => some []
  | .str i :: r => (strsOf r).map (i :: ·)
  | _ :: _ => none

noncomputable def decVal (s : List Nat) : Nat := s.foldl (fun a c => a * 10 + (c - 48)) 0
noncomputable def isNum (s : List Nat) : Bool := !s.isEmpty && s.all (fun c => decide (48 ≤ c) && decide (c ≤ 57)) && decide (s.length ≤ 640)
noncomputable def ofS (h : MH) (s : List Nat) : Res Val := if isNum s then .ok (.int (decVal s)) h else .stuck

noncomputable def biL (h : MH) (v : Val) : Res Val := match v with
  | .str s => .ok (.int s.length) h
  | .ref i => (match seqOf h i with | some (_, xs) => .ok (.int xs.length) h | none => .stuck)
  | .none => .stuck
  | .bool _ => .stuck
  | .int _ => .stuck
noncomputable def biSum (h : MH) (i : Nat) : Res Val := match h[i]? with
  | some (.list xs) => (match intsOf xs with | some ns => .ok (.int ns.sum) h | none => .stuck)
  | _ => .stuck
noncomputable def biAll (h : MH) (i : Nat) : Res Val := match h[i]? with
  | some (.list xs) => (match boolsOf xs with | some bs => .ok (.bool (bs.all id)) h | none => .stuck)
  | _ => .stuck
noncomputable def biList (h : MH) (i : Nat) : Res Val := match h[i]? with
  | some (.list xs) => newList xs h
  | _ => .stuck
noncomputable def onRef (f : Nat → Res Val) (v : Val) : Res Val := match v with | .ref i => f i | .none => .stuck | .bool _ => .stuck | .int _ => .stuck | .str _ => .stuck
noncomputable def onB (h : MH) (v : Val) : Res Val := match v with
  | .bool b => .ok (.int (if b then 1 else 0)) h
  | .str s => ofS h s
  | .none => .stuck | .ref _ => .stuck | .int _ => .stuck
noncomputable def bi1 (h : MH) (b : BI) (v : Val) : Res Val := match b with
  | .len => biL h v
  | .sum => onRef (biSum h) v
  | .all => onRef (biAll h) v
  | .list => onRef (biList h) v
  | .int => onB h v
  | .min => .stuck
  | .max => .stuck
  | .str => .stuck
noncomputable def bi2 (h : MH) (f : Int → Int → Int) (v w : Val) : Res Val := match v, w with
  | .int a, .int b => .ok (.int (f a b)) h
  | _, _ => .stuck
noncomputable def biV (h : MH) (b : BI) (vs : List Val) : Res Val := match vs with
  | [v] => bi1 h b v
  | [v, w] => (match b with
    | .min => bi2 h (fun a b => if b < a then b else a) v w
    | .max => bi2 h (fun a b => if b > a then b else a) v w
    | .len => .stuck | .sum => .stuck | .all => .stuck | .list => .stuck | .int => .stuck | .str => .stuck)
  | _ => .stuck

noncomputable def idxOf (i : Int) (n : Nat) : Option Nat :=
  if 0 ≤ i then (if i < n then some i.toNat else none)
  else if -i ≤ n then some (i + n).toNat else none

noncomputable def headAdd (x : Nat) (ws : List (List Nat)) : List (List Nat) := match ws with | [] => [[x]] | w :: r => (x :: w) :: r
noncomputable def splitBy (c : Nat) : List Nat → List (List Nat)
  | [] => [[]]
  | x :: xs => if x = c then [] :: splitBy c xs else headAdd x (splitBy c xs)
noncomputable def joinTl (c : List Nat) : List (List Nat) → List Nat
  | [] => []
  | w :: ws => c ++ w ++ joinTl c ws
noncomputable def joinBy (c : List Nat) (ws : List (List Nat)) : List Nat := match ws with | [] => [] | w :: r => w ++ joinTl c r
noncomputable def onL (h : MH) (v : Val) (f : Nat → List Val → Res Val) : Res Val := match v with
  | .ref i => (match h[i]? with | some (.list xs) => f i xs | some (.ro _) => .stuck | some (.tup _) => .stuck | some (.inst _) => .stuck | none => .stuck)
  | .none => .stuck | .bool _ => .stuck | .int _ => .stuck | .str _ => .stuck
noncomputable def onI (v : Val) (f : Int → Res Val) : Res Val := match v with | .int k => f k | .none => .stuck | .bool _ => .stuck | .ref _ => .stuck | .str _ => .stuck
noncomputable def arg0 (vs : List Val) (r : Res Val) : Res Val := match vs with | [] => r | _ :: _ => .stuck
noncomputable def arg1 (vs : List Val) (f : Val → Res Val) : Res Val := match vs with | [] => .stuck | x :: r => (match r with | [] => f x | _ :: _ => .stuck)
noncomputable def arg2 (vs : List Val) (f : Val → Val → Res Val) : Res Val := match vs with | [] => .stuck | x :: r => arg1 r (f x)
noncomputable def meApp (h : MH) (v : Val) (vs : List Val) : Res Val := onL h v fun i xs => arg1 vs fun x => if xs.length < lim then .ok .none (h.set i (.list (xs ++ [x]))) else .stuck
noncomputable def onS (v : Val) (f : List Nat → Res Val) : Res Val := match v with | .str s => f s | .none => .stuck | .bool _ => .stuck | .int _ => .stuck | .ref _ => .stuck
noncomputable def meJoin (h : MH) (v : Val) (vs : List Val) : Res Val := onS v fun sep => arg1 vs fun u => onL h u fun _ xs => match strsOf xs with | some ws => if (joinBy sep ws).length ≤ lim then .ok (.str (joinBy sep ws)) h else .stuck | none => .stuck
noncomputable def onC (s : List Nat) (f : Nat → Res Val) : Res Val := match s with | [] => .stuck | c :: r => (match r with | [] => f c | _ :: _ => .stuck)
noncomputable def meSplit (h : MH) (v : Val) (vs : List Val) : Res Val := onS v fun s => arg1 vs fun u => onS u fun sep => onC sep fun c => newList ((splitBy c s).map .str) h
noncomputable def meSidx (h : MH) (v : Val) (vs : List Val) : Res Val := onS v fun s => arg1 vs fun u => onS u fun sep => onC sep fun c => if c ∈ s then .ok (.int (s.idxOf c : Nat)) h else .stuck
noncomputable def meV (h : MH) (m : Me) (v : Val) (vs : List Val) : Res Val := match m with
  | .append => meApp h v vs
  | .join => meJoin h v vs
  | .split => meSplit h v vs
  | .sidx => meSidx h v vs

noncomputable def isListAt (h : MH) (i : Nat) : Bool := match h[i]? with | some (.list _) => true | _ => false
noncomputable def isLV (h : MH) (v : Val) : Bool := match v with | .ref i => isListAt h i | .none => false | .bool _ => false | .int _ => false | .str _ => false
noncomputable def isSV (v : Val) : Bool := match v with | .str _ => true | .none => false | .bool _ => false | .int _ => false | .ref _ => false
noncomputable def meOk (h : MH) (m : Me) (v : Val) : Bool := match m with
  | .append => isLV h v
  | .join => isSV v
  | .split => isSV v
  | .sidx => isSV v

noncomputable def subV (h : MH) : Val → Val → Option Val
  | .str s, .int k => (idxOf k s.length).bind fun j => s[j]?.map fun c => .str [c]
  | .ref i, .int k => (seqOf h i).bind fun p => (idxOf k p.2.length).bind fun j => p.2[j]?
  | _, _ => none

noncomputable def cutAt (v : Val) (d : Nat) (n : Nat) : Option Nat :=
  match v with
  | .none => some d
  | .int i => if 0 ≤ i then some (min i.toNat n) else some (i + n).toNat
  | _ => none

noncomputable def sliceS (h : MH) (s : List Nat) (lo hi : Val) : Res Val := match cutAt lo 0 s.length, cutAt hi s.length s.length with
  | some a, some b => .ok (.str ((s.take b).drop a)) h
  | _, _ => .stuck
noncomputable def sliceL (h : MH) (xs : List Val) (lo hi : Val) : Res Val := match cutAt lo 0 xs.length, cutAt hi xs.length xs.length with
  | some a, some b => newList ((xs.take b).drop a) h
  | _, _ => .stuck
noncomputable def sliceV (h : MH) (v lo hi : Val) : Res Val := match v with
  | .ref i => (match h[i]? with | some (.list xs) => sliceL h xs lo hi | some (.ro _) => .stuck | some (.tup _) => .stuck | some (.inst _) => .stuck | none => .stuck)
  | .str s => sliceS h s lo hi
  | .none => .stuck | .bool _ => .stuck | .int _ => .stuck

noncomputable def srevV (h : MH) : Val → Res Val
  | .ref i => match h[i]? with | some (.list xs) => newList xs.reverse h | _ => .stuck
  | _ => .stuck

noncomputable def asubV (h : MH) : Val → Val → Val → Res Unit
  | .ref i, .int k, v => match h[i]? with
    | some (.list xs) => if 0 ≤ k ∧ k < xs.length then .ok () (h.set i (.list (xs.set k.toNat v))) else .stuck
    | _ => .stuck
  | _, _, _ => .stuck

noncomputable def rangeVals (a : Int) : Nat → List Val
  | 0 => []
  | n + 1 => .int a :: rangeVals (a + 1) n

/-- bind a target: a slot; slots against a tuple -/
noncomputable def bindS : List Nat → List Val → Rho → Option Rho
  | [], vs, ρ => (match vs with | [] => some ρ | _ :: _ => none)
  | i :: is, vs, ρ => (match vs with | [] => none | v :: vs => bindS is vs (ρ.set i (some v)))
noncomputable def tupV (h : MH) (v : Val) : Option (List Val) := match v with
  | .ref i => (match h[i]? with | some (.tup vs) => some vs | some (.list _) => none | some (.ro _) => none | some (.inst _) => none | none => none)
  | .none => none | .bool _ => none | .int _ => none | .str _ => none
noncomputable def bindTgt (_ : MH) (t : MExpr) (v : Val) (ρ : Rho) : Option Rho := match t with
  | .loc i => some (ρ.set i (some v))
  | _ => none

noncomputable abbrev Src := List Val × (MH → Bool)

noncomputable def zipVals : List Val → List Val → List (Val × Val)
  | x :: xs, y :: ys => (x, y) :: zipVals xs ys
  | _, _ => []

noncomputable def compLoop (f : Val → MH → Res (Option Val)) (ck : MH → Bool) : List Val → MH → Res (List Val)
  | [], h => .ok [] h
  | x :: xs, h => (f x h).bind fun o h1 => if ck h1 then (compLoop f ck xs h1).bind fun vs h2 => .ok (match o with | some v => v :: vs | none => vs) h2 else .stuck

noncomputable def forLoop (f : Val → Rho → MH → Res (MFlow × Rho)) (ck : MH → Bool) : List Val → Rho → MH → Res (MFlow × Rho)
  | [], ρ, h => .ok (.next, ρ) h
  | x :: xs, ρ, h => (f x ρ h).bind fun p h1 => match p.1 with
    | .next => if ck h1 then forLoop f ck xs p.2 h1 else .stuck
    | .ret v => .ok (.ret v, p.2) h1

noncomputable def whileLoop (t : Rho → MH → Res Bool) (f : Rho → MH → Res (MFlow × Rho)) : Nat → Rho → MH → Res (MFlow × Rho)
  | 0, _, _ => .stuck
  | n + 1, ρ, h => (t ρ h).bind fun b h1 => if b then (f ρ h1).bind fun p h2 => match p.1 with
      | .next => whileLoop t f n p.2 h2
      | .ret v => .ok (.ret v, p.2) h2
    else .ok (.next, ρ) h1

noncomputable def srcOf (h : MH) (v : Val) : Option Src := match v with
  | .ref i => (match h[i]? with
    | some (.list xs) => some (xs, fun h' => decide (h'[i]? = some (.list xs)))
    | some (.ro xs) => some (xs, fun h' => decide (h'[i]? = some (.ro xs)))
    | some (.tup _) => none | some (.inst _) => none | none => none)
  | .str s => if s.all (fun c => decide (c < 128)) then some (s.map fun c => .str [c], fun _ => true) else none
  | .none => none | .bool _ => none | .int _ => none

noncomputable def rangeOk (a b : Int) : Bool := decide (-lim ≤ a) && decide (a ≤ lim) && decide (-lim ≤ b) && decide (b ≤ lim) && decide (b - a ≤ lim)

structure Den where
  E : Rho → MH → Res Val
  T : Rho → MH → Res Bool
  Es : Rho → MH → Res (List Val)
  I : Rho → MH → Res Src

noncomputable def tOf (E : Rho → MH → Res Val) (ρ : Rho) (h : MH) : Res Bool := (E ρ h).bind fun v h => Res.opt (truthyV h v) h
noncomputable def denE (E : Rho → MH → Res Val) : Den := ⟨E, tOf E, fun _ _ => .stuck, fun _ _ => .stuck⟩
noncomputable def denB (E : Rho → MH → Res Val) (T : Rho → MH → Res Bool) : Den := ⟨E, T, fun _ _ => .stuck, fun _ _ => .stuck⟩
noncomputable def denS (Es : Rho → MH → Res (List Val)) : Den := ⟨fun _ _ => .stuck, fun _ _ => .stuck, Es, fun _ _ => .stuck⟩
noncomputable def denI (I : Rho → MH → Res Src) : Den := ⟨fun _ _ => .stuck, fun _ _ => .stuck, fun _ _ => .stuck, I⟩

noncomputable def optOf : List Val → Option Val
  | [] => some .none
  | [v] => some v
  | _ => none

noncomputable def irangeV (v : Val) (h : MH) : Res Src :=
  match v with
  | .int n => if rangeOk 0 n then .ok (rangeVals 0 n.toNat, fun _ => true) h else .stuck
  | _ => .stuck
noncomputable def irange2V (v w : Val) (h : MH) : Res Src :=
  match v, w with
  | .int n, .int m => if rangeOk n m then .ok (rangeVals n (m - n).toNat, fun _ => true) h else .stuck
  | _, _ => .stuck
noncomputable def lrangeV (v : Val) (h : MH) : Res Val :=
  match v with
  | .int n => if rangeOk 0 n then newList (rangeVals 0 n.toNat) h else .stuck
  | _ => .stuck
noncomputable def attrV (k : Nat) (v : Val) (h : MH) : Res Val :=
  match v with
  | .ref i => (match h[i]? with
    | some (.inst fs) => (match fs[k]? with | some (some w) => .ok w h | _ => .stuck)
    | _ => .stuck)
  | _ => .stuck
noncomputable def locV (i : Nat) (ρ : Rho) (h : MH) : Res Val := match ρ[i]? with | some (some v) => .ok v h | _ => .stuck
noncomputable def compStep (tgt : MExpr) (cond : Rho → MH → Res Bool) (elt : Rho → MH → Res Val) (ρ : Rho) (x : Val) (h : MH) : Res (Option Val) :=
  match bindTgt h tgt x ρ with
  | some ρ' => (cond ρ' h).bind fun b h => if b then (elt ρ' h).bind fun v h => .ok (some v) h else .ok none h
  | none => .stuck

variable (C : Cf)

noncomputable def sem : MExpr → Den
  | .const v => denE fun _ h => .ok v h
  | .gconst v => denE fun _ h => .ok v h
  | .loc i => denE (locV i)
  | .bin op a b => denE fun ρ h => ((sem a).E ρ h).bind fun v h => ((sem b).E ρ h).bind fun w h => binV h op v w
  | .un op a => denB (fun ρ h => ((sem a).E ρ h).bind fun v h => unV h op v) (fun ρ h => match op with
      | .Not => ((sem a).T ρ h).bind fun b h => .ok (!b) h
      | op => (((sem a).E ρ h).bind fun v h => unV h op v).bind fun v h => Res.opt (truthyV h v) h)
  | .and a b => denB (fun ρ h => ((sem a).E ρ h).bind fun v h => (Res.opt (truthyV h v) h).bind fun t h => if t then (sem b).E ρ h else .ok v h)
      (fun ρ h => ((sem a).T ρ h).bind fun t h => if t then (sem b).T ρ h else .ok false h)
  | .or a b => denB (fun ρ h => ((sem a).E ρ h).bind fun v h => (Res.opt (truthyV h v) h).bind fun t h => if t then .ok v h else (sem b).E ρ h)
      (fun ρ h => ((sem a).T ρ h).bind fun t h => if t then .ok true h else (sem b).T ρ h)
  | .cmp op a b => denB (fun ρ h => ((sem a).E ρ h).bind fun v h => ((sem b).E ρ h).bind fun w h => (Res.opt (cmpV h op v w) h).bind fun t h => .ok (.bool t) h)
      (fun ρ h => ((sem a).E ρ h).bind fun v h => ((sem b).E ρ h).bind fun w h => Res.opt (cmpV h op v w) h)
  | .cmp2 o₁ o₂ a b c => denB (fun ρ h => ((sem a).E ρ h).bind fun v h => ((sem b).E ρ h).bind fun w h => (Res.opt (cmpV h o₁ v w) h).bind fun t h =>
        if t then ((sem c).E ρ h).bind fun x h => (Res.opt (cmpV h o₂ w x) h).bind fun t h => .ok (.bool t) h else .ok (.bool false) h)
      (fun ρ h => ((sem a).E ρ h).bind fun v h => ((sem b).E ρ h).bind fun w h => (Res.opt (cmpV h o₁ v w) h).bind fun t h =>
        if t then ((sem c).E ρ h).bind fun x h => Res.opt (cmpV h o₂ w x) h else .ok false h)
  | .isinst t a => denE fun ρ h => ((sem a).E ρ h).bind fun v h => (Res.opt (isInstV h t v) h).bind fun b h => .ok (.bool b) h
  | .call f args => denE fun ρ h => ((sem args).Es ρ h).bind fun vs h => C f vs h
  | .bi b args => denE fun ρ h => ((sem args).Es ρ h).bind fun vs h => biV h b vs
  | .lrange a => denE fun ρ h => ((sem a).E ρ h).bind lrangeV
  | .meth m o args => denE fun ρ h => ((sem o).E ρ h).bind fun v h => if meOk h m v then ((sem args).Es ρ h).bind fun vs h => meV h m v vs else .stuck
  | .lst es => denE fun ρ h => ((sem es).Es ρ h).bind newList
  | .tup es => denE fun ρ h => ((sem es).Es ρ h).bind fun vs h => if vs.length ≤ lim then newObj (.tup vs) h else .stuck
  | .sub o i => denE fun ρ h => ((sem o).E ρ h).bind fun v h => ((sem i).E ρ h).bind fun w h => Res.opt (subV h v w) h
  | .slice o lo hi => denE fun ρ h => ((sem o).E ρ h).bind fun v h => (((sem lo).Es ρ h).bind fun a h => Res.opt (optOf a) h).bind fun a h => (((sem hi).Es ρ h).bind fun b h => Res.opt (optOf b) h).bind fun b h => sliceV h v a b
  | .srev o => denE fun ρ h => ((sem o).E ρ h).bind fun v h => srevV h v
  | .comp elt tgt it cond => denE fun ρ h => ((sem it).I ρ h).bind fun s h =>
      (compLoop (compStep tgt (sem cond).T (sem elt).E ρ) s.2 s.1 h).bind newList
  | .attr o k => denE fun ρ h => ((sem o).E ρ h).bind (attrV k)
  | .nil => denS fun _ h => .ok [] h
  | .cons a b => denS fun ρ h => ((sem a).E ρ h).bind fun v h => ((sem b).Es ρ h).bind fun vs h => .ok (v :: vs) h
  | .irange a => denI fun ρ h => ((sem a).E ρ h).bind irangeV
  | .irange2 a b => denI fun ρ h => ((sem a).E ρ h).bind fun v h => ((sem b).E ρ h).bind fun w h => irange2V v w h
  | .iobj a => denI fun ρ h => ((sem a).E ρ h).bind fun v h => Res.opt (srcOf h v) h
  | .izip _ _ => denI fun _ _ => .stuck

noncomputable abbrev evalE (e : MExpr) := (sem C e).E
noncomputable abbrev evalT (e : MExpr) := (sem C e).T
noncomputable abbrev evalEs (e : MExpr) := (sem C e).Es
noncomputable abbrev evalI (e : MExpr) := (sem C e).I

noncomputable def aattrV (k : Nat) (v w : Val) (h : MH) : Res Unit :=
  match v with
  | .ref i => (match h[i]? with
    | some (.inst fs) => if k < fs.length then .ok () (h.set i (.inst (fs.set k (some w)))) else .stuck
    | _ => .stuck)
  | _ => .stuck

noncomputable def forStep (tgt : MExpr) (b : Rho → MH → Res (MFlow × Rho)) (x : Val) (ρ : Rho) (h : MH) : Res (MFlow × Rho) :=
  match bindTgt h tgt x ρ with
  | some ρ' => b ρ' h
  | none => .stuck

noncomputable def caught (c : Nat) : List (Nat × Bool × Val) → Option Val
  | [] => none
  | h :: r => if h.1 = c ∨ h.1 = 0 then some h.2.2 else caught c r
noncomputable def tryV (hs : List (Nat × Bool × Val)) (ρ : Rho) (r : Res (MFlow × Rho)) : Res (MFlow × Rho) := match r with
  | .ok p h => .ok p h
  | .exc c h => (match caught c hs with | some v => .ok (.ret v, ρ) h | none => .stuck)
  | .stuck => .stuck

noncomputable def exec (W : Nat) : MStmt → Rho → MH → Res (MFlow × Rho)
  | .nil, ρ, h => .ok (.next, ρ) h
  | .cons s r, ρ, h => (exec W s ρ h).bind fun p h => match p.1 with
      | .next => exec W r p.2 h
      | .ret v => .ok (.ret v, p.2) h
  | .assign i e, ρ, h => (evalE C e ρ h).bind fun v h => .ok (.next, ρ.set i (some v)) h
  | .asub o i e, ρ, h => (evalE C e ρ h).bind fun v h => (evalE C o ρ h).bind fun ov h => (evalE C i ρ h).bind fun iv h =>
      (asubV h ov iv v).bind fun _ h => .ok (.next, ρ) h
  | .aattr o k e, ρ, h => (evalE C e ρ h).bind fun v h => (evalE C o ρ h).bind fun ov h => (aattrV k ov v h).bind fun _ h => .ok (.next, ρ) h
  | .atup ts e, ρ, h => (evalE C e ρ h).bind fun v h => (Res.opt (tupV h v) h).bind fun vs h => (Res.opt (bindS ts vs ρ) h).bind fun ρ' h => .ok (.next, ρ') h
  | .expr e, ρ, h => (evalE C e ρ h).bind fun _ h => .ok (.next, ρ) h
  | .ifs c t e, ρ, h => (evalT C c ρ h).bind fun b h => if b then exec W t ρ h else exec W e ρ h
  | .fors tgt it b, ρ, h => (evalI C it ρ h).bind fun s h => forLoop (forStep tgt (exec W b)) s.2 s.1 ρ h
  | .whiles c b, ρ, h => whileLoop (evalT C c) (exec W b) W ρ h
  | .ret e, ρ, h => (evalE C e ρ h).bind fun v h => .ok (.ret v, ρ) h
  | .raise c, _, h => .exc c h
  | .tryx b hs, ρ, h => tryV hs ρ (exec W b ρ h)

end Mine

namespace Mine

noncomputable def callN (F : Nat → Option MFun) (W : Nat) : Nat → Cf
  | 0, _, _, _ => .stuck
  | n + 1, f, vs, h => match F f with
    | some d => if vs.length = d.np then
        (exec (callN F W n) W d.body (vs.map some ++ List.replicate (d.ns - d.np) none) h).bind fun p h => match p.1 with
          | .ret v => .ok v h
          | .next => .ok .none h
        else .stuck
    | none => .stuck

end Mine


-- part MiniRel
set_option maxRecDepth 4000
set_option linter.unusedVariables false
namespace Mine
open PySem

noncomputable def VRel (μ : List Addr) : Val → Value → Prop
  | .none, v => v = .none
  | .bool b, v => v = .bool b
  | .int i, v => ∃ t, v = .int i t
  | .str s, v => s.length ≤ lim ∧ ∃ t, v = .str ⟨s.toArray⟩ t
  | .ref i, v => ∃ a, μ[i]? = some a ∧ v = .ref a

noncomputable def VsRel (μ : List Addr) : List Val → List Value → Prop
  | [], ys => ys = []
  | v :: vs, ys => ∃ w ws, ys = w :: ws ∧ VRel μ v w ∧ VsRel μ vs ws

theorem getElem?_prefix {α : Type} {l l' : List α} (p : l <+: l') {i : Nat} {a : α} (h : l[i]? = some a) : l'[i]? = some a := by
  obtain ⟨t, rfl⟩ := p
  rw [List.getElem?_append_left]; exact h
  exact (List.getElem?_eq_some_iff.mp h).1

theorem VRel.mono {μ μ' : List Addr} (p : μ <+: μ') {v : Val} {w : Value} (h : VRel μ v w) : VRel μ' v w := by
  cases v with
  | ref i => obtain ⟨a, e, r⟩ := h; exact ⟨a, getElem?_prefix p e, r⟩
  | _ => exact h
theorem VsRel.mono {μ μ' : List Addr} (p : μ <+: μ') : ∀ {vs : List Val} {ws : List Value}, VsRel μ vs ws → VsRel μ' vs ws
  | [], _, h => h
  | _ :: _, _, ⟨w, ws, e, r, rs⟩ => ⟨w, ws, e, r.mono p, rs.mono p⟩
theorem VsRel.length {μ : List Addr} : ∀ {vs : List Val} {ws : List Value}, VsRel μ vs ws → ws.length = vs.length
  | [], _, h => by rw [show _ = [] from h]; rfl
  | _ :: _, _, ⟨w, ws, e, _, rs⟩ => by rw [e, List.length_cons, List.length_cons, rs.length]
theorem VsRel.cons {μ : List Addr} {v w vs ws} (h : VRel μ v w) (hs : VsRel μ vs ws) : VsRel μ (v :: vs) (w :: ws) := ⟨w, ws, rfl, h, hs⟩
theorem VsRel.get {μ : List Addr} : ∀ {vs : List Val} {ws : List Value} {i : Nat} {v : Val}, VsRel μ vs ws → vs[i]? = some v → ∃ w, ws[i]? = some w ∧ VRel μ v w
  | [], _, _, _, _, e => by simp at e
  | _ :: _, _, 0, _, ⟨w, ws, e, r, _⟩, q => by simp at q; subst q; exact ⟨w, by rw [e]; rfl, r⟩
  | _ :: _, _, i + 1, _, ⟨w, ws, e, _, rs⟩, q => by
    simp at q; obtain ⟨x, h1, h2⟩ := rs.get q; exact ⟨x, by rw [e]; simpa using h1, h2⟩
theorem VsRel.append {μ : List Addr} : ∀ {vs us : List Val} {ws xs : List Value}, VsRel μ vs ws → VsRel μ us xs → VsRel μ (vs ++ us) (ws ++ xs)
  | [], _, _, _, h, k => by rw [show _ = [] from h]; exact k
  | _ :: _, _, _, _, ⟨w, ws, e, r, rs⟩, k => by rw [e]; exact ⟨w, _, rfl, r, rs.append k⟩
theorem VsRel.take {μ : List Addr} : ∀ {vs : List Val} {ws : List Value} (n : Nat), VsRel μ vs ws → VsRel μ (vs.take n) (ws.take n)
  | [], _, n, h => by rw [show _ = [] from h]; simp; rfl
  | _ :: _, _, 0, _ => by simp; rfl
  | _ :: _, _, n + 1, ⟨w, ws, e, r, rs⟩ => by rw [e]; exact ⟨w, _, rfl, r, rs.take n⟩
theorem VsRel.drop {μ : List Addr} : ∀ {vs : List Val} {ws : List Value} (n : Nat), VsRel μ vs ws → VsRel μ (vs.drop n) (ws.drop n)
  | [], _, n, h => by rw [show _ = [] from h]; simp; rfl
  | _ :: _, _, 0, h => h
  | _ :: _, _, n + 1, ⟨w, ws, e, r, rs⟩ => by rw [e]; exact rs.drop n
theorem VsRel.set {μ : List Addr} : ∀ {vs : List Val} {ws : List Value} (n : Nat) {v w}, VsRel μ vs ws → VRel μ v w → VsRel μ (vs.set n v) (ws.set n w)
  | [], _, n, _, _, h, _ => by rw [show _ = [] from h]; simp; rfl
  | _ :: _, _, 0, _, _, ⟨w, ws, e, _, rs⟩, k => by rw [e]; exact ⟨_, _, rfl, k, rs⟩
  | _ :: _, _, n + 1, _, _, ⟨w, ws, e, r, rs⟩, k => by rw [e]; exact ⟨_, _, rfl, r, rs.set n k⟩
theorem VsRel.flat {μ : List Addr} {vs : List Val} {ws : List Value} (h : VsRel μ vs ws) : ∀ n, VsRel μ (List.replicate n vs).flatten (List.replicate n ws).flatten
  | 0 => rfl
  | n + 1 => by rw [List.replicate_succ, List.replicate_succ, List.flatten_cons, List.flatten_cons]; exact h.append (h.flat n)

noncomputable abbrev listObj (ys : List Value) (n : Nat) : Obj := { cls := .type "list", dict := none, data := .seq ys.toArray n, slots := #[] }
noncomputable abbrev tupObj (ys : List Value) (n : Nat) : Obj := { cls := .type "tuple", dict := none, data := .seq ys.toArray n, slots := #[] }

noncomputable def ORel (μ : List Addr) (h : Heap) (a : Addr) : MObj → Prop
  | .list xs => xs.length ≤ lim ∧ ∃ ys n, h.get? a = some (listObj ys n) ∧ VsRel μ xs ys
  | .ro xs => xs.length ≤ lim ∧ ∃ ys n, h.get? a = some (listObj ys n) ∧ VsRel μ xs ys
  | .tup xs => xs.length ≤ lim ∧ ∃ ys n, h.get? a = some (tupObj ys n) ∧ VsRel μ xs ys
  | .inst _ => False

noncomputable def MObj.isRo : MObj → Bool
  | .ro _ => true
  | _ => false

structure HRel (B : Heap) (μ : List Addr) (σ : MH) (h : Heap) : Prop where
  len : μ.length = σ.length
  inj : ∀ (i j : Nat) (a : Addr), μ[i]? = some a → μ[j]? = some a → i = j
  base : ∀ b o, B.get? b = some o → h.get? b = some o
  obj : ∀ (i : Nat) (a : Addr) (o : MObj), μ[i]? = some a → σ[i]? = some o → ORel μ h a o
  new : ∀ (i : Nat) (a : Addr) (o : MObj), μ[i]? = some a → σ[i]? = some o → o.isRo = false → B.get? a = none

/-- an object, a dict's slots aside -/
noncomputable def nrm (o : Obj) : Obj := match o.data with
  | .dict _ _ => { o with slots := #[] }
  | _ => o
noncomputable def look (h : Heap) (b : Addr) : Option Obj := (h.get? b).map nrm
theorem nrm_data (o : Obj) : (nrm o).data = o.data := by
  unfold nrm; split <;> rfl
theorem nrm_of {o : Obj} (h : ∀ es ep, o.data ≠ .dict es ep) : nrm o = o := by
  unfold nrm; split
  · rename_i es ep e; exact absurd e (h es ep)
  · rfl
theorem look_of {h : Heap} {b : Addr} {o : Obj} (e : h.get? b = some o) : look h b = some (nrm o) := by unfold look; rw [e]; rfl
theorem look_elim {h : Heap} {b : Addr} {o : Obj} (e : look h b = some o) : ∃ o', h.get? b = some o' ∧ nrm o' = o := Option.map_eq_some_iff.mp e
theorem look_keep {h h' : Heap} {b : Addr} (k : ∀ o, h.get? b = some o → h'.get? b = some o) {o : Obj} (e : look h b = some o) : look h' b = some o := by
  obtain ⟨o', e1, rfl⟩ := look_elim e
  exact look_of (k o' e1)
theorem get_of_look {h : Heap} {b : Addr} {o : Obj} (e : look h b = some o) (n : ∀ es ep, o.data ≠ .dict es ep) : h.get? b = some o := by
  obtain ⟨o', e1, rfl⟩ := look_elim e
  rw [nrm_data] at n
  rw [e1, nrm_of n]

structure Step (μ μ' : List Addr) (h h' : Heap) : Prop where
  pre : μ <+: μ'
  keep : ∀ b o, b ∉ μ → look h b = some o → look h' b = some o
  fresh : ∀ b, b ∈ μ' → b ∉ μ → h.get? b = none

theorem Step.refl (μ : List Addr) (h : Heap) : Step μ μ h h := ⟨List.prefix_refl _, fun _ _ _ e => e, fun _ x y => absurd x y⟩
theorem Step.notMem {μ μ' : List Addr} {h h' : Heap} (s : Step μ μ' h h') {b : Addr} {o : Obj} (n : b ∉ μ) (e : h.get? b = some o) : b ∉ μ' := fun q => by
  rw [s.fresh b q n] at e; cases e
theorem Step.notMemL {μ μ' : List Addr} {h h' : Heap} (s : Step μ μ' h h') {b : Addr} {o : Obj} (n : b ∉ μ) (e : look h b = some o) : b ∉ μ' := by
  obtain ⟨o', e', _⟩ := look_elim e
  exact s.notMem n e'
theorem Step.get {μ μ' : List Addr} {h h' : Heap} (s : Step μ μ' h h') {b : Addr} {o : Obj} (n : b ∉ μ) (e : h.get? b = some o) (nd : ∀ es ep, o.data ≠ .dict es ep) : h'.get? b = some o := by
  have := s.keep b _ n (look_of e)
  rw [nrm_of nd] at this
  exact get_of_look this nd
theorem Step.trans {μ μ' μ'' : List Addr} {h h' h'' : Heap} (s : Step μ μ' h h') (t : Step μ' μ'' h' h'') : Step μ μ'' h h'' :=
  ⟨s.pre.trans t.pre, fun b o n e => t.keep b o (s.notMemL n e) (s.keep b o n e), fun b x y => by
    by_cases q : b ∈ μ'
    · exact s.fresh b q y
    · cases e : h.get? b with
      | none => rfl
      | some o =>
        have := t.fresh b x q
        obtain ⟨o', e', _⟩ := look_elim (s.keep b _ y (look_of e))
        rw [e'] at this; cases this⟩
/-- objects are only added -/
theorem Step.grow {μ : List Addr} {h h' : Heap} (k : ∀ b o, h.get? b = some o → h'.get? b = some o) : Step μ μ h h' :=
  ⟨List.prefix_refl _, fun b o _ e => look_keep (k b) e, fun _ x y => absurd x y⟩

theorem ORel.mono {μ μ' : List Addr} {h h' : Heap} {a : Addr} {o : MObj} (p : μ <+: μ') (k : ∀ ob, h.get? a = some ob → h'.get? a = some ob) (r : ORel μ h a o) : ORel μ' h' a o := by
  cases o with
  | list xs => obtain ⟨l, ys, n, e, v⟩ := r; exact ⟨l, ys, n, k _ e, v.mono p⟩
  | ro xs => obtain ⟨l, ys, n, e, v⟩ := r; exact ⟨l, ys, n, k _ e, v.mono p⟩
  | tup xs => obtain ⟨l, ys, n, e, v⟩ := r; exact ⟨l, ys, n, k _ e, v.mono p⟩
  | inst _ => exact r

/-- the heap grows, nothing of ours changes -/
theorem HRel.grow {B : Heap} {μ : List Addr} {σ : MH} {h h' : Heap} (r : HRel B μ σ h) (k : ∀ b o, h.get? b = some o → h'.get? b = some o) : HRel B μ σ h' :=
  ⟨r.len, r.inj, fun b o e => k b o (r.base b o e), fun i a o e q => (r.obj i a o e q).mono (List.prefix_refl _) (k a), r.new⟩

/-- a new object of ours -/
theorem HRel.alloc {B : Heap} {μ : List Addr} {σ : MH} {h h' : Heap} (r : HRel B μ σ h) {a : Addr} {o : MObj} (k : ∀ b o, h.get? b = some o → h'.get? b = some o)
    (f : a ∉ μ) (b : B.get? a = none) (ho : ORel (μ ++ [a]) h' a o) : HRel B (μ ++ [a]) (σ ++ [o]) h' := by
  have len' := r.len
  have old : ∀ {i : Nat} {x : Addr}, (μ ++ [a])[i]? = some x → (μ[i]? = some x ∧ i < μ.length) ∨ (x = a ∧ i = μ.length) := fun {i x} e => by
    rcases Nat.lt_trichotomy i μ.length with q | q | q
    · rw [List.getElem?_append_left q] at e; exact .inl ⟨e, q⟩
    · subst q; rw [List.getElem?_append_right (Nat.le_refl _), Nat.sub_self] at e; cases e; exact .inr ⟨rfl, rfl⟩
    · rw [List.getElem?_eq_none (by simp; omega)] at e; cases e
  have mem : ∀ {i : Nat} {x : Addr}, μ[i]? = some x → x ∈ μ := fun e => List.mem_of_getElem? e
  refine ⟨by simp [len'], fun i j x e q => ?_, fun b o e => k b o (r.base b o e), fun i x o' e q => ?_, fun i x o' e q n => ?_⟩
  · rcases old e with ⟨e, _⟩ | ⟨rfl, e⟩ <;> rcases old q with ⟨q, _⟩ | ⟨q', q⟩
    · exact r.inj i j x e q
    · exact absurd (mem e) (q' ▸ f)
    · exact absurd (mem q) f
    · omega
  · rcases old e with ⟨e, l⟩ | ⟨rfl, z⟩
    · rw [List.getElem?_append_left (by omega)] at q
      exact (r.obj i x o' e q).mono (List.prefix_append _ _) (k x)
    · subst z; rw [len', List.getElem?_append_right (Nat.le_refl _), Nat.sub_self] at q; cases q; exact ho
  · rcases old e with ⟨e, l⟩ | ⟨rfl, e⟩
    · rw [List.getElem?_append_left (by omega)] at q
      exact r.new i x o' e q n
    · exact b

/-- an object of ours changes -/
theorem HRel.upd {B : Heap} {μ : List Addr} {σ : MH} {h h' : Heap} (r : HRel B μ σ h) {i : Nat} {a : Addr} {o o' : MObj} (e : μ[i]? = some a) (q : σ[i]? = some o) (n : o.isRo = false)
    (k : ∀ b x, b ≠ a → h.get? b = some x → h'.get? b = some x) (ho : ORel μ h' a o') : HRel B μ (σ.set i o') h' := by
  have nb := r.new i a o e q n
  refine ⟨by simp [r.len], r.inj, fun b x y => k b x (fun z => by rw [z, nb] at y; cases y) (r.base b x y), fun j x p u v => ?_, fun j x p u v w => ?_⟩
  · by_cases z : i = j
    · subst z
      rw [List.getElem?_set_self (by exact (List.getElem?_eq_some_iff.mp q).1)] at v
      cases v; rw [e] at u; cases u; exact ho
    · rw [List.getElem?_set_ne z] at v
      exact (r.obj j x p u v).mono (List.prefix_refl _) (fun ob y => k x ob (fun c => z (by subst c; exact r.inj i j x e u)) y)
  · by_cases z : i = j
    · subst z; rw [e] at u; cases u; exact nb
    · rw [List.getElem?_set_ne z] at v; exact r.new j x p u v w

theorem HRel.at {B : Heap} {μ : List Addr} {σ : MH} {h : Heap} (r : HRel B μ σ h) {i : Nat} {a : Addr} {o : MObj} (e : μ[i]? = some a) (q : σ[i]? = some o) : ORel μ h a o := r.obj i a o e q

/-- what a sequence of ours is in the heap -/
theorem HRel.seq {B : Heap} {μ : List Addr} {σ : MH} {h : Heap} (r : HRel B μ σ h) {i : Nat} {a : Addr} {k : Bool} {xs : List Val} (e : μ[i]? = some a) (q : seqOf σ i = some (k, xs)) :
    xs.length ≤ lim ∧ ∃ ys n, VsRel μ xs ys ∧ h.get? a = some (if k then listObj ys n else tupObj ys n) := by
  unfold seqOf at q
  split at q
  · rename_i xs' z; cases q; obtain ⟨l, ys, n, u, v⟩ := r.at e z; exact ⟨l, ys, n, v, u⟩
  · rename_i xs' z; cases q; obtain ⟨l, ys, n, u, v⟩ := r.at e z; exact ⟨l, ys, n, v, u⟩
  · rename_i xs' z; cases q; obtain ⟨l, ys, n, u, v⟩ := r.at e z; exact ⟨l, ys, n, v, u⟩
  · cases q

noncomputable def isVar : Option NameKind → Bool
  | some .local | some .cell | some .free => true
  | _ => false

noncomputable def Bound (env : Env) (h : Heap) (x : Str) (v : Value) : Prop :=
  (env.kindOf x = some .local ∧ ∃ m, h.Ns env.locals m ∧ m x = some v) ∨
  ((env.kindOf x = some .cell ∨ env.kindOf x = some .free) ∧ ∃ c, env.cells.lookup x = some c ∧ h.IsCell c (some v))

/-- the frame: where it lies -/
structure Frm (B : Heap) (env : Env) (μ : List Addr) (h : Heap) : Prop where
  kind : env.scope.kind = .function
  glob : env.globals = mainGlobals
  bl : env.builtins = builtinsNs
  ns : ∃ m, h.Ns env.locals m
  locMu : env.locals ∉ μ
  locB : B.get? env.locals = none
  cell : ∀ x c, env.cells.lookup x = some c → (∃ v, h.IsCell c v) ∧ c ≠ env.locals ∧ c ∉ μ ∧ B.get? c = none
  cinj : ∀ x y c, env.cells.lookup x = some c → env.cells.lookup y = some c → x = y
  has : ∀ x, (env.kindOf x = some .cell ∨ env.kindOf x = some .free) → ∃ c, env.cells.lookup x = some c

noncomputable def Vars (env : Env) (sm : List (Str × Nat)) (ρ : Rho) (μ : List Addr) (h : Heap) : Prop :=
  ∀ (x : Str) (i : Nat) (v : Val), isVar (env.kindOf x) = true → sm.lookup x = some i → ρ[i]? = some (some v) → ∃ w, Bound env h x w ∧ VRel μ v w

theorem Ns_alive {h : Heap} {a : Addr} {m : Str → Option Value} (x : h.Ns a m) : ∃ o, h.get? a = some o := let ⟨o, _, _, e, _⟩ := x; ⟨o, e⟩
theorem Ns_at {h h' : Heap} {a : Addr} {m : Str → Option Value} (x : h.Ns a m) (k : ∀ o, h.get? a = some o → h'.get? a = some o) : h'.Ns a m := let ⟨o, es, ep, e, r⟩ := x; ⟨o, es, ep, k _ e, r⟩
theorem IsCell_at {h h' : Heap} {c : Addr} {v : Option Value} (x : h.IsCell c v) (k : ∀ o, h.get? c = some o → h'.get? c = some o) : h'.IsCell c v := let ⟨o, e, r⟩ := x; ⟨o, k _ e, r⟩
theorem Ns_look {h h' : Heap} {a : Addr} {m : Str → Option Value} (x : h.Ns a m) (k : ∀ o, look h a = some o → look h' a = some o) : h'.Ns a m := by
  obtain ⟨o, es, ep, e, d, r⟩ := x
  obtain ⟨o', e', q⟩ := look_elim (k _ (look_of e))
  exact ⟨o', es, ep, e', by rw [← nrm_data o', q, nrm_data]; exact d, r⟩
theorem IsCell_look {h h' : Heap} {c : Addr} {v : Option Value} (x : h.IsCell c v) (k : ∀ o, look h c = some o → look h' c = some o) : h'.IsCell c v := by
  obtain ⟨o, e, d⟩ := x
  obtain ⟨o', e', q⟩ := look_elim (k _ (look_of e))
  exact ⟨o', e', by rw [← nrm_data o', q, nrm_data]; exact d⟩
theorem Ns_uniq {h : Heap} {a : Addr} {m m' : Str → Option Value} (x : h.Ns a m) (y : h.Ns a m') : m = m' := by
  obtain ⟨o, es, ep, e, d, _, r⟩ := x
  obtain ⟨o', es', ep', e', d', _, r'⟩ := y
  rw [e] at e'; cases e'; rw [d] at d'; cases d'
  exact funext fun z => (r z).symm.trans (r' z)

/-- what a step leaves of a frame -/
theorem Bound.atL {env : Env} {h h' : Heap} {x : Str} {v : Value} (b : Bound env h x v) (kl : ∀ o, look h env.locals = some o → look h' env.locals = some o)
    (kc : ∀ c o, env.cells.lookup x = some c → look h c = some o → look h' c = some o) : Bound env h' x v := by
  rcases b with ⟨k, m, n, e⟩ | ⟨k, c, l, e⟩
  · exact .inl ⟨k, m, Ns_look n kl, e⟩
  · exact .inr ⟨k, c, l, IsCell_look e fun o => kc c o l⟩
theorem Bound.at {env : Env} {h h' : Heap} {x : Str} {v : Value} (b : Bound env h x v) (kl : ∀ o, h.get? env.locals = some o → h'.get? env.locals = some o)
    (kc : ∀ c o, env.cells.lookup x = some c → h.get? c = some o → h'.get? c = some o) : Bound env h' x v := b.atL (fun _ e => look_keep kl e) fun c _ q e => look_keep (fun o => kc c o q) e

theorem Frm.step {B : Heap} {env : Env} {μ μ' : List Addr} {h h' : Heap} (f : Frm B env μ h) (s : Step μ μ' h h') : Frm B env μ' h' := by
  obtain ⟨m, n⟩ := f.ns
  obtain ⟨o, e⟩ := Ns_alive n
  refine ⟨f.kind, f.glob, f.bl, ⟨m, Ns_look n fun o e => s.keep _ o f.locMu e⟩, s.notMem f.locMu e, f.locB, fun x c l => ?_, f.cinj, f.has⟩
  obtain ⟨⟨v, ic⟩, ne, nm, nb⟩ := f.cell x c l
  have ⟨o', e', _⟩ := ic
  exact ⟨⟨v, IsCell_look ic fun o e => s.keep _ o nm e⟩, ne, s.notMem nm e', nb⟩
theorem Vars.step {B : Heap} {env : Env} {sm : List (Str × Nat)} {ρ : Rho} {μ μ' : List Addr} {h h' : Heap} (f : Frm B env μ h) (vs : Vars env sm ρ μ h) (s : Step μ μ' h h') : Vars env sm ρ μ' h' :=
  fun x i v k l e => by
    obtain ⟨w, b, r⟩ := vs x i v k l e
    exact ⟨w, b.atL (fun o e => s.keep _ o f.locMu e) (fun c o q e => s.keep _ o (f.cell x c q).2.2.1 e), r.mono s.pre⟩

end Mine


-- part MiniEq
set_option maxRecDepth 4000
set_option linter.unusedVariables false
namespace Mine
open PySem PySem.SeqAt

theorem eqP_refl {v : Val} {b : Bool} (h : eqP v v = some b) : b = true := by
  cases v with
  | none => cases h; rfl
  | bool a => have h : some (a == a) = some b := h; rw [beq_self_eq_true] at h; cases h; rfl
  | int a => have h : some (a == a) = some b := h; rw [beq_self_eq_true] at h; cases h; rfl
  | str a => have h : some (a == a) = some b := h; rw [beq_self_eq_true] at h; cases h; rfl
  | ref a => cases h
theorem eqL_refl {f : Val → Val → Option Bool} (hf : ∀ v b, f v v = some b → b = true) : ∀ {xs : List Val} {b : Bool}, eqL f xs xs = some b → b = true
  | [], _, h => by simpa [eqL] using h.symm
  | x :: xs, b, h => by
    simp only [eqL, Option.bind_eq_some_iff, Option.map_eq_some_iff] at h
    obtain ⟨c, hc, d, hd, e⟩ := h
    rw [← e, hf x c hc, eqL_refl hf hd]; rfl
theorem eqV_refl {σ : MH} : ∀ {n : Nat} {v : Val} {b : Bool}, eqV n σ v v = some b → b = true
  | 0, v, b, h => eqP_refl h
  | n + 1, v, b, h => by
    cases v with
    | ref i =>
      simp only [eqV] at h
      cases q : seqOf σ i with
      | none => rw [q] at h; simp at h
      | some p => obtain ⟨k, xs⟩ := p; rw [q] at h; simp at h; exact eqL_refl (fun v b => eqV_refl) h
    | none => exact eqP_refl (v := .none) h
    | bool b => exact eqP_refl (v := .bool b) h
    | int b => exact eqP_refl (v := .int b) h
    | str b => exact eqP_refl (v := .str b) h

theorem isList_of {h : Heap} {a : Addr} {ys : List Value} {n : Nat} (e : h.get? a = some (listObj ys n)) : h.IsList a ys.toArray := ⟨_, e, rfl, n, rfl⟩
theorem isTup_of {h : Heap} {a : Addr} {ys : List Value} {n : Nat} (e : h.get? a = some (tupObj ys n)) : h.IsTuple a ys.toArray := ⟨_, e, rfl, n, rfl⟩

theorem strBeq (a b : List Nat) : ((⟨a.toArray⟩ : Str) == ⟨b.toArray⟩) = (a == b) := by
  rw [Bool.eq_iff_iff]; simp

/-- both answers at once -/
noncomputable def Both (A : Around) (s : Shared) (v w : Value) (b : Bool) : Prop := RcAt A s v w b ∧ EqAt A s v w b ∧ RcNeAt A s v w (!b)

theorem eqP_both {A : Around} {s : Shared} {μ : List Addr} {v w : Val} {v' w' : Value} {b : Bool} (hv : VRel μ v v') (hw : VRel μ w w') (h : eqP v w = some b) : Both A s v' w' b := by
  cases v <;> cases w <;> first | (exact (Option.noConfusion h)) | skip
  all_goals simp only [VRel] at hv hw
  all_goals first
    | (obtain ⟨_, t, rfl⟩ := hv; obtain ⟨_, u, rfl⟩ := hw)
    | (obtain ⟨_, t, rfl⟩ := hv; obtain ⟨u, rfl⟩ := hw)
    | (obtain ⟨_, t, rfl⟩ := hv; subst hw)
    | (obtain ⟨t, rfl⟩ := hv; obtain ⟨_, u, rfl⟩ := hw)
    | (subst hv; obtain ⟨_, u, rfl⟩ := hw)
    | (obtain ⟨t, rfl⟩ := hv; obtain ⟨u, rfl⟩ := hw)
    | (obtain ⟨t, rfl⟩ := hv; subst hw)
    | (subst hv; obtain ⟨u, rfl⟩ := hw)
    | (subst hv; subst hw)
  all_goals cases h
  · exact ⟨RcAt.none_none, EqAt.same _, RcNeAt.none_none⟩
  · exact ⟨RcAt.none_bool _, EqAt.none_bool _, RcNeAt.none_bool _⟩
  · exact ⟨RcAt.none_int _ _, EqAt.none_int _ _, RcNeAt.none_int _ _⟩
  · exact ⟨RcAt.none_str _ _, EqAt.none_str _ _, RcNeAt.none_str _ _⟩
  · exact ⟨RcAt.bool_none _, EqAt.bool_none _, RcNeAt.bool_none _⟩
  · exact ⟨RcAt.bool_bool _ _, EqAt.bool_bool _ _, RcNeAt.bool_bool _ _⟩
  · exact ⟨RcAt.bool_int _ _ _, EqAt.bool_int _ _ _, RcNeAt.bool_int _ _ _⟩
  · exact ⟨RcAt.bool_str _ _ _, EqAt.bool_str _ _ _, RcNeAt.bool_str _ _ _⟩
  · exact ⟨RcAt.int_none _ _, EqAt.int_none _ _, RcNeAt.int_none _ _⟩
  · exact ⟨RcAt.int_bool _ _ _, EqAt.int_bool _ _ _, RcNeAt.int_bool _ _ _⟩
  · exact ⟨RcAt.int_int _ _ _ _, EqAt.int_int _ _ _ _, RcNeAt.int_int _ _ _ _⟩
  · exact ⟨RcAt.int_str _ _ _ _, EqAt.int_str _ _ _ _, RcNeAt.int_str _ _ _ _⟩
  · exact ⟨RcAt.str_none _ _, EqAt.str_none _ _, RcNeAt.str_none _ _⟩
  · exact ⟨RcAt.str_bool _ _ _, EqAt.str_bool _ _ _, RcNeAt.str_bool _ _ _⟩
  · exact ⟨RcAt.str_int _ _ _ _, EqAt.str_int _ _ _ _, RcNeAt.str_int _ _ _ _⟩
  · rename_i a c _ _
    have := strBeq a c
    exact ⟨by rw [← this]; exact RcAt.str_str _ _ _ _, by rw [← this]; exact EqAt.str_str _ _ _ _, by rw [← this]; exact RcNeAt.str_str _ _ _ _⟩

theorem eqL_get {f : Val → Val → Option Bool} : ∀ {xs ys : List Val} {b : Bool}, eqL f xs ys = some b → xs.length = ys.length →
    ∃ e : Nat → Bool, (∀ (j : Nat) x y, xs[j]? = some x → ys[j]? = some y → f x y = some (e j)) ∧ b = (List.range xs.length).all e
  | [], [], b, h, _ => ⟨fun _ => true, by simp, by simpa [eqL] using h.symm⟩
  | x :: xs, y :: ys, b, h, l => by
    simp only [eqL, Option.bind_eq_some_iff, Option.map_eq_some_iff] at h
    obtain ⟨c, hc, d, hd, e⟩ := h
    obtain ⟨g, h1, h2⟩ := eqL_get hd (by simpa using l)
    refine ⟨fun j => match j with | 0 => c | j + 1 => g j, fun j x' y' q r => ?_, ?_⟩
    · cases j with
      | zero => simp at q r; subst q; subst r; exact hc
      | succ j => simp at q r; exact h1 j x' y' q r
    · rw [← e, h2, List.length_cons, List.range_succ_eq_map]
      simp [List.all_map, Function.comp_def]
  | [], _ :: _, _, _, l => by simp at l
  | _ :: _, [], _, _, l => by simp at l

theorem mixedBoth {A : Around} {s : Shared} {μ : List Addr} {a : Addr} {v : Val} {v' : Value} (x : (∃ ys, s.heap.IsList a ys) ∨ (∃ ys, s.heap.IsTuple a ys)) (hu : A.units < cLine) (hv : VRel μ v v') (nr : ∀ i, v ≠ .ref i) :
    Both A s (.ref a) v' false ∧ Both A s v' (.ref a) false := by
  cases v with
  | none =>
    rw [show v' = _ from hv]
    rcases x with ⟨_, x⟩ | ⟨_, x⟩
    · exact ⟨⟨RcAt.list_none x hu, EqAt.list_none x hu, RcNeAt.list_none x hu⟩, ⟨RcAt.none_list x hu, EqAt.none_list x hu, RcNeAt.none_list x hu⟩⟩
    · exact ⟨⟨RcAt.tuple_none x hu, EqAt.tuple_none x hu, RcNeAt.tuple_none x hu⟩, ⟨RcAt.none_tuple x hu, EqAt.none_tuple x hu, RcNeAt.none_tuple x hu⟩⟩
  | bool b =>
    rw [show v' = _ from hv]
    rcases x with ⟨_, x⟩ | ⟨_, x⟩
    · exact ⟨⟨RcAt.list_bool _ x hu, EqAt.list_bool _ x hu, RcNeAt.list_bool _ x hu⟩, ⟨RcAt.bool_list _ x hu, EqAt.bool_list _ x hu, RcNeAt.bool_list _ x hu⟩⟩
    · exact ⟨⟨RcAt.tuple_bool _ x hu, EqAt.tuple_bool _ x hu, RcNeAt.tuple_bool _ x hu⟩, ⟨RcAt.bool_tuple _ x hu, EqAt.bool_tuple _ x hu, RcNeAt.bool_tuple _ x hu⟩⟩
  | int b =>
    obtain ⟨t, rfl⟩ := hv
    rcases x with ⟨_, x⟩ | ⟨_, x⟩
    · exact ⟨⟨RcAt.list_int _ _ x hu, EqAt.list_int _ _ x hu, RcNeAt.list_int _ _ x hu⟩, ⟨RcAt.int_list _ _ x hu, EqAt.int_list _ _ x hu, RcNeAt.int_list _ _ x hu⟩⟩
    · exact ⟨⟨RcAt.tuple_int _ _ x hu, EqAt.tuple_int _ _ x hu, RcNeAt.tuple_int _ _ x hu⟩, ⟨RcAt.int_tuple _ _ x hu, EqAt.int_tuple _ _ x hu, RcNeAt.int_tuple _ _ x hu⟩⟩
  | str b =>
    obtain ⟨_, t, rfl⟩ := hv
    rcases x with ⟨_, x⟩ | ⟨_, x⟩
    · exact ⟨⟨RcAt.list_str _ _ x hu, EqAt.list_str _ _ x hu, RcNeAt.list_str _ _ x hu⟩, ⟨RcAt.str_list _ _ x hu, EqAt.str_list _ _ x hu, RcNeAt.str_list _ _ x hu⟩⟩
    · exact ⟨⟨RcAt.tuple_str _ _ x hu, EqAt.tuple_str _ _ x hu, RcNeAt.tuple_str _ _ x hu⟩, ⟨RcAt.str_tuple _ _ x hu, EqAt.str_tuple _ _ x hu, RcNeAt.str_tuple _ _ x hu⟩⟩
  | ref i => exact absurd rfl (nr i)

theorem eqV_both {B : Heap} {μ : List Addr} {σ : MH} {s : Shared} (r : HRel B μ σ s.heap) : ∀ {n : Nat} {A : Around} {v w : Val} {v' w' : Value} {b : Bool}, A.units + n < cLine →
    VRel μ v v' → VRel μ w w' → eqV n σ v w = some b → Both A s v' w' b
  | 0, A, v, w, v', w', b, _, hv, hw, h => eqP_both hv hw h
  | n + 1, A, v, w, v', w', b, hu, hv, hw, h => by
    have hu' : A.units < cLine := by omega
    have mixed : ∀ {i : Nat} {a : Addr} {p : Bool × List Val}, μ[i]? = some a → seqOf σ i = some p → (∃ ys, s.heap.IsList a ys) ∨ (∃ ys, s.heap.IsTuple a ys) := fun {i a p} e q => by
      obtain ⟨k, xs⟩ := p
      obtain ⟨_, ys, n, _, u⟩ := r.seq e q
      cases k
      · exact .inr ⟨_, isTup_of u⟩
      · exact .inl ⟨_, isList_of u⟩
    by_cases hr : ∃ i j, v = .ref i ∧ w = .ref j
    · obtain ⟨i, j, rfl, rfl⟩ := hr
      obtain ⟨a, ea, rfl⟩ := hv
      obtain ⟨c, ec, rfl⟩ := hw
      have same : a = c → b = true := fun q => by
        have := r.inj i j a ea (q ▸ ec); subst this; exact eqV_refl h
      have both : (RcAt A s (.ref a) (.ref c) b ∧ RcNeAt A s (.ref a) (.ref c) (!b)) → Both A s (.ref a) (.ref c) b := fun x => ⟨x.1, by
        by_cases q : a = c
        · rw [same q, q]; exact EqAt.same _
        · exact EqAt.of_refs q x.1, x.2⟩
      simp only [eqV] at h
      split at h
      · rename_i k xs l ys q1 q2
        obtain ⟨l1, xs', n1, v1, u1⟩ := r.seq ea q1
        obtain ⟨l2, ys', n2, v2, u2⟩ := r.seq ec q2
        refine both ?_
        have items : ∀ e : Nat → Bool, (∀ (j : Nat) x y, xs[j]? = some x → ys[j]? = some y → eqV n σ x y = some (e j)) → ∀ j (h1 : j < xs'.toArray.size) (h2 : j < ys'.toArray.size), EqAt A.in1 s xs'.toArray[j] ys'.toArray[j] (e j) := fun e he j h1 h2 => by
          have g1 : j < xs.length := by rw [← v1.length]; simpa using h1
          have g2 : j < ys.length := by rw [← v2.length]; simpa using h2
          obtain ⟨x', p1, p2⟩ := v1.get (List.getElem?_eq_getElem g1)
          obtain ⟨y', p3, p4⟩ := v2.get (List.getElem?_eq_getElem g2)
          have t1 : xs'.toArray[j] = x' := by simp at h1 ⊢; rw [List.getElem?_eq_getElem h1] at p1; exact Option.some.inj p1
          have t2 : ys'.toArray[j] = y' := by simp at h2 ⊢; rw [List.getElem?_eq_getElem h2] at p3; exact Option.some.inj p3
          rw [t1, t2]
          exact (eqV_both r (n := n) (A := A.in1) (by show A.units + 1 + n < cLine; omega) p2 p4 (he j _ _ (List.getElem?_eq_getElem g1) (List.getElem?_eq_getElem g2))).2.1
        split at h
        · rename_i hkl; subst hkl
          split at h
          · rename_i hlen
            obtain ⟨e, he, hb⟩ := eqL_get h hlen
            cases k
            · have t1 := RcAt.tuples (isTup_of u1) (isTup_of u2) hu' (items e he)
              have t2 := RcNeAt.tuples (isTup_of u1) (isTup_of u2) hu' (items e he)
              rw [hb]
              have z : xs'.toArray.size = ys'.toArray.size := by simp [v1.length, v2.length, hlen]
              rw [z, Nat.min_self, ← z] at t1 t2
              exact ⟨by simpa [v1.length] using t1, by simpa [v1.length] using t2⟩
            · have t1 := RcAt.lists (isList_of u1) (isList_of u2) (by simp [v1.length, v2.length, hlen]) hu' (items e he)
              have t2 := RcNeAt.lists (isList_of u1) (isList_of u2) (by simp [v1.length, v2.length, hlen]) hu' (items e he)
              rw [hb]; exact ⟨by simpa [v1.length] using t1, by simpa [v1.length] using t2⟩
          · rename_i hlen
            have z : (xs'.toArray.size != ys'.toArray.size) = true := by simp [v1.length, v2.length, hlen]
            cases k
            · simp at h
            · simp at h; subst h; exact ⟨RcAt.lists_lengths (isList_of u1) (isList_of u2) z hu', RcNeAt.lists_lengths (isList_of u1) (isList_of u2) z hu'⟩
        · rename_i hkl; cases h
          cases k <;> cases l
          · exact absurd rfl hkl
          · exact ⟨RcAt.tuple_list (isTup_of u1) (isList_of u2) hu', RcNeAt.tuple_list (isTup_of u1) (isList_of u2) hu'⟩
          · exact ⟨RcAt.list_tuple (isList_of u1) (isTup_of u2) hu', RcNeAt.list_tuple (isList_of u1) (isTup_of u2) hu'⟩
          · exact absurd rfl hkl
      · cases h
    · cases v with
      | ref i =>
        obtain ⟨a, ea, rfl⟩ := hv
        cases w with
        | ref j => exact absurd ⟨_, _, rfl, rfl⟩ hr
        | _ =>
          simp only [eqV, Option.map_eq_some_iff] at h
          obtain ⟨p, hp, rfl⟩ := h
          exact (mixedBoth (mixed ea hp) hu' hw (by intro _; simp)).1
      | _ =>
        cases w with
        | ref j =>
          obtain ⟨a, ea, rfl⟩ := hw
          simp only [eqV, Option.map_eq_some_iff] at h
          obtain ⟨p, hp, rfl⟩ := h
          exact (mixedBoth (mixed ea hp) hu' hv (by intro _; simp)).2
        | _ => exact eqP_both hv hw h

end Mine


-- part MiniVal
set_option maxRecDepth 4000
set_option linter.unusedVariables false
namespace Mine
open PySem

/-- where exceptions go: the frames, the post -/
structure XE where
  l : List Env
  E : Value → Shared → Prop

/-- the classes of exceptions, by number -/
noncomputable def clsName : Nat → Str
  | 0 => "SplitError" | 1 => "NoPeople" | 2 => "TooMany" | 3 => "Uneven" | 4 => "BadBid" | 5 => "NoDeal" | 6 => "NoPerson" | 7 => "NoGood" | _ => "NoText"
noncomputable def clsK (B : Heap) (c : Nat) : Addr := match B.nsMap mainGlobals (clsName c) with | some (.ref a) => a | _ => 0

noncomputable abbrev bmVE : List Value := [.type "ValueError", .type "Exception", .type "BaseException", .type "object"]
noncomputable def tlK (B : Heap) (c : Nat) : List Value := (if c = 0 then [] else [.ref (clsK B 0)]) ++ bmVE
/-- a class of exceptions as it stands -/
noncomputable def ExcCls (B : Heap) (c : Nat) : Prop := c < 9 ∧ (∃ o cd, B.get? (clsK B 0) = some o ∧ o.data = .cls cd ∧ cd.name = clsName 0) ∧
  ∃ N q bs hdct sn sub ab col dd k0 k1 k2 k3 k5 mN, B.get? (clsK B c) = some (excClassObj (clsName c) q (clsK B c) N bs (tlK B c) hdct sn sub ab col dd k0 k1 k2 k3 k5 "ValueError.__new__") ∧ B.Ns N mN ∧ mN "__init__" = none ∧ OwnTail B bmVE (tlK B c)
noncomputable abbrev HX (B : Heap) (μ : List Addr) (σ : MH) (base : Heap) (c : Nat) : Prop := HRel B μ σ base ∧ ExcCls B c

/-- an exception at a frame: just made there, or with a traceback -/
noncomputable def ExcAt (base : Heap) (l : List Env) (C e : Addr) (h' : Heap) : Prop :=
  base.StaysIn h' ∧ base.get? e = none ∧ h'.FunFrames base l ∧
  ((∃ oe vs a0, h'.get? e = some oe ∧ oe.cls = .ref C ∧ oe.data = .fields vs ∧ vs[0]? = some a0 ∧ vs[1]? = some .none) ∨ ∃ a0 fl, h'.TracedAtW base e (.ref C) a0 fl)
/-- the way to an exception: what was there, dicts aside, stands in the base -/
structure StepX (μ μ' : List Addr) (h base h' : Heap) : Prop where
  step : Step μ μ' h h'
  based : ∀ b o, b ∉ μ → look h b = some o → (∀ es ep, o.data ≠ .dict es ep) → ∃ o', base.get? b = some o'
theorem Step.transX' {μ μ' μ'' : List Addr} {h h' h'' base : Heap} (s : Step μ μ' h h') (t : StepX μ' μ'' h' base h'') : StepX μ μ'' h base h'' :=
  ⟨s.trans t.step, fun b o n e nd => t.based b o (s.notMemL n e) (s.keep b o n e) nd⟩
noncomputable def PostX (B : Heap) (X : XE) (μ : List Addr) (s : Shared) (c : Nat) (σ : MH) : Prop :=
  ∀ μ' h' tk e base, HX B μ' σ base c → StepX μ μ' s.heap base h' → ExcAt base X.l (clsK B c) e h' → X.E (.ref e) { s with heap := h', toks := tk }
theorem PostX.step {B : Heap} {X : XE} {μ μ' : List Addr} {s : Shared} {c : Nat} {σ : MH} {h' : Heap} {tk : Nat} (p : PostX B X μ s c σ) (st : Step μ μ' s.heap h') : PostX B X μ' { s with heap := h', toks := tk } c σ :=
  fun μ'' h'' tk' e base r st' x => p μ'' h'' tk' e base r (st.transX' st') x

noncomputable def Post {α β : Type} (B : Heap) (X : XE) (V : List Addr → α → β → Prop) (μ : List Addr) (s : Shared) (Q : β → Shared → Prop) : Res α → Prop
  | .ok v σ => ∀ μ' w h' tk, HRel B μ' σ h' → Step μ μ' s.heap h' → V μ' v w → Q w { s with heap := h', toks := tk }
  | .exc c σ => PostX B X μ s c σ
  | .stuck => False

noncomputable def BRel (_ : List Addr) (a b : Bool) : Prop := a = b

structure AOk (n : Nat) (A : Around) : Prop where
  handled : A.handled = none
  depth : A.depth + n < 900
  units : A.units + 10 * n + 100 < 9900

theorem AOk.u {n : Nat} {A : Around} (h : AOk n A) (k : Nat) (hk : k ≤ 100 := by omega) : A.units + k < cLine := by have := h.units; show _ < 9900; omega

section
variable {B : Heap} {X : XE} {μ : List Addr} {σ : MH} {s : Shared}

theorem Post.here {α β : Type} {V : List Addr → α → β → Prop} {Q : β → Shared → Prop} {v : α} {w : β} {tk : Nat} (r : HRel B μ σ s.heap) (p : Post B X V μ s Q (.ok v σ)) (hv : V μ v w) : Q w { s with toks := tk } :=
  p μ w s.heap tk r (Step.refl _ _) hv
theorem Post.here' {α β : Type} {V : List Addr → α → β → Prop} {Q : β → Shared → Prop} {v : α} {w : β} (r : HRel B μ σ s.heap) (p : Post B X V μ s Q (.ok v σ)) (hv : V μ v w) : Q w s :=
  p μ w s.heap s.toks r (Step.refl _ _) hv
theorem Post.grow {α β : Type} {V : List Addr → α → β → Prop} {Q : β → Shared → Prop} {v : α} {w : β} {h' : Heap} {tk : Nat} (r : HRel B μ σ s.heap) (p : Post B X V μ s Q (.ok v σ)) (k : ∀ b o, s.heap.get? b = some o → h'.get? b = some o) (hv : V μ v w) : Q w { s with heap := h', toks := tk } :=
  p μ w h' tk (r.grow k) (Step.grow k) hv
theorem Post.step {α β : Type} {V : List Addr → α → β → Prop} {Q : β → Shared → Prop} {x : Res α} {μ' : List Addr} {h' : Heap} {tk : Nat} (p : Post B X V μ s Q x) (st : Step μ μ' s.heap h') : Post B X V μ' { s with heap := h', toks := tk } Q x := by
  cases x with
  | ok v σ' => intro μ'' w h'' tk' r st' hv; exact p μ'' w h'' tk' r (st.trans st') hv
  | exc c h => exact PostX.step p st
  | stuck => exact p

theorem HRel.fresh (r : HRel B μ σ s.heap) : s.heap.objs.size ∉ μ := fun q => by
  obtain ⟨i, hi, e⟩ := List.getElem_of_mem q
  have ei : μ[i]? = some s.heap.objs.size := by rw [List.getElem?_eq_getElem hi, e]
  have hs : i < σ.length := by rw [← r.len]; exact hi
  have := r.obj i _ _ ei (List.getElem?_eq_getElem hs)
  cases q : σ[i] with
  | list xs => rw [q] at this; obtain ⟨_, ys, n, g, _⟩ := this; exact absurd (Heap.lt_size g) (Nat.lt_irrefl _)
  | ro xs => rw [q] at this; obtain ⟨_, ys, n, g, _⟩ := this; exact absurd (Heap.lt_size g) (Nat.lt_irrefl _)
  | tup xs => rw [q] at this; obtain ⟨_, ys, n, g, _⟩ := this; exact absurd (Heap.lt_size g) (Nat.lt_irrefl _)
  | inst fs => rw [q] at this; exact this.elim
theorem HRel.freshB (r : HRel B μ σ s.heap) : B.get? s.heap.objs.size = none := by
  cases e : B.get? s.heap.objs.size with
  | none => rfl
  | some o => exact absurd (Heap.lt_size (r.base _ _ e)) (Nat.lt_irrefl _)
theorem size_none (h : Heap) : h.get? h.objs.size = none := by
  cases e : h.get? h.objs.size with
  | none => rfl
  | some o => exact absurd (Heap.lt_size e) (Nat.lt_irrefl _)

/-- a new object at the heap's end, or at any address that was free -/
theorem Post.newAt {Q : Value → Shared → Prop} {o : MObj} {a : Addr} {h' : Heap} {tk : Nat} (r : HRel B μ σ s.heap) (p : Post B X VRel μ s Q (newObj o σ)) (k : ∀ b ob, s.heap.get? b = some ob → h'.get? b = some ob)
    (fm : a ∉ μ) (fb : B.get? a = none) (fh : s.heap.get? a = none) (ho : ORel (μ ++ [a]) h' a o) : Q (.ref a) { s with heap := h', toks := tk } := by
  refine p (μ ++ [a]) _ h' tk (r.alloc k fm fb ho) ⟨List.prefix_append _ _, fun b ob _ e => look_keep (k b) e, fun b x y => ?_⟩ ⟨a, ?_, rfl⟩
  · rcases List.mem_append.mp x with x | x
    · exact absurd x y
    · rw [List.mem_singleton.mp x]; exact fh
  · rw [← r.len, List.getElem?_append_right (Nat.le_refl _), Nat.sub_self]; rfl
theorem Post.new {Q : Value → Shared → Prop} {o : MObj} {h' : Heap} {tk : Nat} (r : HRel B μ σ s.heap) (p : Post B X VRel μ s Q (newObj o σ)) (k : ∀ b ob, s.heap.get? b = some ob → h'.get? b = some ob)
    (ho : ORel (μ ++ [s.heap.objs.size]) h' s.heap.objs.size o) : Q (.ref s.heap.objs.size) { s with heap := h', toks := tk } :=
  p.newAt r k r.fresh r.freshB (size_none _) ho
theorem Post.newList {Q : Value → Shared → Prop} {xs : List Val} {ys : List Value} {n : Nat} {h' : Heap} {tk : Nat} (r : HRel B μ σ s.heap) (p : Post B X VRel μ s Q (newList xs σ)) (k : ∀ b ob, s.heap.get? b = some ob → h'.get? b = some ob)
    (e : h'.get? s.heap.objs.size = some (listObj ys n)) (hv : VsRel μ xs ys) : Q (.ref s.heap.objs.size) { s with heap := h', toks := tk } := by
  unfold Mine.newList at p
  split at p
  · rename_i hl; exact p.new r k ⟨hl, ys, n, e, hv.mono (List.prefix_append _ _)⟩
  · exact p.elim
theorem newList_len {Q : Value → Shared → Prop} {xs : List Val} (p : Post B X VRel μ s Q (Mine.newList xs σ)) : xs.length ≤ lim := by
  unfold Mine.newList at p
  split at p
  · assumption
  · exact p.elim
theorem push_keep (h : Heap) (o : Obj) : ∀ b ob, h.get? b = some ob → (h.push o).get? b = some ob := fun _ _ e => Heap.get?_push_of_some o e

/-- an object of ours changes -/
theorem Post.upd {α β : Type} {V : List Addr → α → β → Prop} {Q : β → Shared → Prop} {v : α} {w : β} {i : Nat} {a : Addr} {o o' : MObj} {h' : Heap} {tk : Nat} (r : HRel B μ σ s.heap) (p : Post B X V μ s Q (.ok v (σ.set i o')))
    (e : μ[i]? = some a) (q : σ[i]? = some o) (nr : o.isRo = false) (k : ∀ b x, b ≠ a → s.heap.get? b = some x → h'.get? b = some x) (ho : ORel μ h' a o') (hv : V μ v w) : Q w { s with heap := h', toks := tk } :=
  p μ w h' tk (r.upd e q nr k ho) ⟨List.prefix_refl _, fun b ob n g => look_keep (fun o' => k b o' (fun z => n (z ▸ List.mem_of_getElem? e))) g, fun _ x y => absurd x y⟩ hv

variable {prog : Program} {w : World} {A : Around} {E : Value → Shared → Prop} {n : Nat}

theorem truthy_sound {v : Val} {v' : Value} {Q : Bool → Shared → Prop} (r : HRel B μ σ s.heap) (hv : VRel μ v v') (p : Post B X BRel μ s Q (Res.opt (truthyV σ v) σ)) : wpAny (model prog w) A (truthy v') Q E s := by
  cases v with
  | none => rw [show v' = _ from hv]; exact PyProof.Rows.truthy_none (p.here' r rfl)
  | bool b => rw [show v' = _ from hv]; exact wpAny_truthy_bool (p.here' r rfl)
  | int i => obtain ⟨t, rfl⟩ := hv; exact PyProof.Rows.truthy_int (p.here' r rfl)
  | str x =>
    obtain ⟨l, t, rfl⟩ := hv
    have hl : x.length ≤ 1048576 := l
    have e : (⟨x.toArray⟩ : Str).length = x.length := by simp [Str.length]
    refine P.truthy_str (by rw [e]; omega) (p.here r ?_)
    rw [e]; cases x <;> simp [BRel]
    omega
  | ref i =>
    obtain ⟨a, ea, rfl⟩ := hv
    simp only [truthyV] at p
    cases q : seqOf σ i with
    | none => rw [q] at p; exact p.elim
    | some z =>
      obtain ⟨k, xs⟩ := z
      rw [q] at p
      cases k
      · exact p.elim
      · obtain ⟨l, ys, n, hv, u⟩ := r.seq ea q
        have hl : ys.length ≤ 1048576 := by rw [hv.length]; exact l
        refine wpAny_truthy_list (isList_of u) (by simp; omega) (p.here r ?_)
        show (!xs.isEmpty) = _
        have := hv.length
        cases xs <;> cases ys <;> simp_all

theorem mulOk_of {a b : Int} (h : mulOk a b = true) : IntMulOk a b := by
  have key : ∀ x : Int, x.natAbs < 9223372036854775808 → Builtin.Int.intBits x ≤ 64 := fun x hx => by
    unfold Builtin.Int.intBits
    split
    · omega
    · have : x.natAbs.log2 < 63 := (Nat.log2_lt (by simp_all)).mpr (by omega)
      omega
  unfold mulOk at h
  rcases Bool.or_eq_true_iff.mp h with h | h
  · exact IntMulOk.of_left (key a (of_decide_eq_true h))
  · exact IntMulOk.of_right (key b (of_decide_eq_true h))

theorem idx_seq {i : Int} {n k : Nat} (h : idxOf i n = some k) : seqIndex? i n = some k ∧ k < n ∧ -(n : Int) ≤ i ∧ i < n := by
  unfold idxOf at h
  split at h
  · split at h
    · cases h; exact ⟨seqIndex_of (by assumption) (by assumption), by omega, by omega, by omega⟩
    · cases h
  · split at h
    · cases h; exact ⟨seqIndex_neg (by omega) (by omega), by omega, by omega, by omega⟩
    · cases h

theorem strLen (x : List Nat) : (⟨x.toArray⟩ : Str).length = x.length := by simp [Str.length]
theorem strApp (x y : List Nat) : (⟨x.toArray⟩ : Str) ++ ⟨y.toArray⟩ = ⟨(x ++ y).toArray⟩ := by
  show Str.append _ _ = _; unfold Str.append; simp

theorem foldl_app (items : Array Value) : ∀ (n : Nat) (acc : Array Value), (List.foldl (fun x1 x2 => x1 ++ x2) acc (List.replicate n items)) = acc ++ (List.replicate n items.toList).flatten.toArray
  | 0, acc => by simp
  | n + 1, acc => by rw [List.replicate_succ, List.foldl_cons, foldl_app items n, List.replicate_succ, List.flatten_cons, Array.append_assoc]; congr 1; apply Array.toList_inj.mp; simp

theorem bin_sound {op : Operator} {v u : Val} {v' u' : Value} {Q : Value → Shared → Prop} (r : HRel B μ σ s.heap) (hv : VRel μ v v') (hu : VRel μ u u') (p : Post B X VRel μ s Q (binV σ op v u)) : wpAny (model prog w) A (binaryOp op v' u') Q E s := by
  cases v with
  | none => exact p.elim
  | bool => exact p.elim
  | int a =>
    cases u with
    | int b =>
      cases op with
      | Add =>
        obtain ⟨t, rfl⟩ := hv; obtain ⟨t', rfl⟩ := hu; exact PyProof.Rows.add_int (p.here r ⟨_, rfl⟩)
      | Sub =>
        obtain ⟨t, rfl⟩ := hv; obtain ⟨t', rfl⟩ := hu; exact PyProof.Rows.sub_int (p.here r ⟨_, rfl⟩)
      | Mult =>
        have p : Post B X VRel μ s Q (if mulOk a b then .ok (.int (a * b)) σ else .stuck) := p
        obtain ⟨t, rfl⟩ := hv; obtain ⟨t', rfl⟩ := hu
        split at p
        · rename_i hm
          exact PyProof.Rows.mul_int (p.here r ⟨_, rfl⟩) (mulOk_of hm)
        · exact p.elim
      | FloorDiv =>
        have p : Post B X VRel μ s Q (if 0 < b ∧ b < 1073741824 then .ok (.int (a / b)) σ else .stuck) := p
        obtain ⟨t, rfl⟩ := hv; obtain ⟨t', rfl⟩ := hu
        split at p
        · rename_i hm
          refine PyProof.Rows.floordiv_int (by omega) ?_ (.inl (PyProof.noPylong_small (by omega)))
          rw [Int.fdiv_eq_ediv_of_nonneg _ (by omega)]
          exact p.here r ⟨_, rfl⟩
        · exact p.elim
      | Mod =>
        have p : Post B X VRel μ s Q (if 0 < b then .ok (.int (a % b)) σ else .stuck) := p
        obtain ⟨t, rfl⟩ := hv; obtain ⟨t', rfl⟩ := hu
        split at p
        · rename_i hm
          refine PyProof.Rows.mod_int' (by omega) ?_
          rw [Int.fmod_eq_emod_of_nonneg _ (by omega)]
          exact p.here r ⟨_, rfl⟩
        · exact p.elim
      | _ => exact p.elim
    | _ => exact p.elim
  | str a =>
    cases u with
    | str b =>
      cases op with
      | Add =>
        have p : Post B X VRel μ s Q (if a.length + b.length ≤ lim then .ok (.str (a ++ b)) σ else .stuck) := p
        obtain ⟨l1, t, rfl⟩ := hv; obtain ⟨l2, t', rfl⟩ := hu
        split at p
        · rename_i hm
          have l3 : a.length ≤ 1048576 := l1
          have l4 : b.length ≤ 1048576 := l2
          refine PyProof.Rows.add_str (fun t' tk => ?_) (by rw [strLen, strLen]; show _ ≤ 2 ^ 24; omega)
          rw [strApp]
          exact p.here r ⟨by rw [List.length_append]; exact hm, t', rfl⟩
        · exact p.elim
      | _ => exact p.elim
    | _ => exact p.elim
  | ref i =>
    cases u with
    | ref j =>
      cases op with
      | Add =>
        have p : Post B X VRel μ s Q (addRR σ i j) := p
        obtain ⟨a, ea, rfl⟩ := hv; obtain ⟨b, eb, rfl⟩ := hu
        unfold addRR at p
        split at p
        · rename_i xs ys q1 q2
          obtain ⟨l1, xs', n1, u1, v1⟩ := r.at ea q1
          obtain ⟨l2, ys', n2, u2, v2⟩ := r.at eb q2
          have l3 : xs.length ≤ 1048576 := l1
          have l4 : ys.length ≤ 1048576 := l2
          refine PySem.P.add_list u1 u2 (p.newList (ys := xs' ++ ys') (n := 0) r (push_keep _ _) ?_ (v1.append v2)) (by simp [v1.length, v2.length]; show _ ≤ 2 ^ 24; omega)
          rw [Heap.get?_push_size _ rfl]; simp
        · exact p.elim
      | _ => exact p.elim
    | int m =>
      cases op with
      | Mult =>
        have p : Post B X VRel μ s Q (mulRI σ i m) := p
        obtain ⟨a, ea, rfl⟩ := hv; obtain ⟨t, rfl⟩ := hu
        unfold mulRI at p
        split at p
        · rename_i xs q1
          split at p
          · rename_i hb
            obtain ⟨l1, xs', n1, u1, v1⟩ := r.at ea q1
            have l3 : xs.length ≤ 1048576 := l1
            have hl := newList_len p
            have hm : (List.replicate m.toNat xs).flatten.length = m.toNat * xs.length := by simp [List.length_flatten]
            have hlim : lim = 1048576 := rfl
            have hsz : xs'.toArray.size * m.toNat ≤ 2 ^ 24 := by
              rw [hm] at hl
              simp [v1.length]; rw [Nat.mul_comm]; omega
            refine wpAny_binaryOp_repeat_ref (T := "list") (U := "int") (by decide) ⟨_, u1, rfl⟩ (fun s' => typeIs_int s' m t) noFill_list_mul F.fills_int_mul F.slot_int_rmul repeat_list F.slot_int_index.lookup
              (call_meets F.slot_int_rmul (typeIs_int s m t) F.entry_int_rmul (F.args_int_rmul_2 _ _) (int___rmul___int_list m t a xs'.toArray n1)
                ⟨u1, rfl, ⟨_, u1, rfl⟩, call_meets F.slot_list_mul ⟨_, u1, rfl⟩ F.entry_list_mul (F.args_list_mul_2 _ _)
                  (AutoListH.list___mul___list_int_3 a xs'.toArray n1 m t (by simp [Builtin.List.listFitsIndex]; omega) (by omega) (by simp [Builtin.List.listTooLong, sizeLine]; simp at hsz; omega))
                  ⟨u1, ?_⟩⟩)
            have e2 : (List.foldl (fun x1 x2 => x1 ++ x2) #[] (List.replicate (if xs'.toArray.isEmpty = true then 0 else m.toNat) xs'.toArray)) = (List.replicate m.toNat xs').flatten.toArray := by
              rw [foldl_app]
              split
              · rename_i he
                have : xs' = [] := by simpa using he
                subst this
                simp
              · simp
            rw [e2]
            exact p.newList (n := 0) r (push_keep _ _) (Heap.get?_push_size _ rfl) (v1.flat _)
          · exact p.elim
        · exact p.elim
      | _ => exact p.elim
    | _ => exact p.elim

end
end Mine


-- part MiniExc
set_option maxRecDepth 4000
set_option linter.unusedVariables false
namespace Mine
open PySem

/-- changes outside of ours -/
theorem HRel.other {B : Heap} {μ : List Addr} {σ : MH} {h h' : Heap} {P : Addr → Prop} (r : HRel B μ σ h) (k : ∀ b o, ¬ P b → h.get? b = some o → h'.get? b = some o) (hm : ∀ b, P b → b ∉ μ) (hB : ∀ b, P b → B.get? b = none) : HRel B μ σ h' :=
  ⟨r.len, r.inj, fun b o e => k b o (fun q => by rw [hB b q] at e; cases e) (r.base b o e), fun i a o e q => (r.obj i a o e q).mono (List.prefix_refl _) fun ob g => k a ob (fun z => hm a z (List.mem_of_getElem? e)) g, r.new⟩

open Classical in
/-- a heap, some addresses taken out -/
noncomputable def cut (P : Addr → Prop) (h : Heap) : Heap := { h with objs := h.objs.mapIdx fun i o => if P i then { o with data := .freed } else o }
theorem cut_none {P : Addr → Prop} {h : Heap} {b : Addr} (p : P b) : (cut P h).get? b = none := by
  unfold cut Heap.get?
  simp only [Array.getElem?_mapIdx]
  cases h.objs[b]? with
  | none => rfl
  | some o => simp only [Option.map_some, if_pos p]
theorem cut_get {P : Addr → Prop} {h : Heap} {b : Addr} (p : ¬ P b) : (cut P h).get? b = h.get? b := by
  unfold cut Heap.get?
  simp only [Array.getElem?_mapIdx]
  cases h.objs[b]? with
  | none => rfl
  | some o => simp only [Option.map_some, if_neg p]
theorem cut_in {P : Addr → Prop} {h : Heap} : (cut P h).StaysIn h := fun b o e => by
  by_cases p : P b
  · rw [cut_none p] at e; cases e
  · rwa [cut_get p] at e

/-- the frames' locals stand in the heap, apart from our objects -/
noncomputable def FrOk (B : Heap) (l : List Env) (μ : List Addr) (h : Heap) : Prop := ∀ e, e ∈ l → e.scope.kind ≠ .module ∧ ∃ L, e.frame = some L ∧ L ∉ μ ∧ B.get? L = none ∧ ∃ m, h.Ns L m
theorem FrOk.step {B : Heap} {l : List Env} {μ μ' : List Addr} {h h' : Heap} (f : FrOk B l μ h) (st : Step μ μ' h h') : FrOk B l μ' h' := fun e he => by
  obtain ⟨h1, L, h2, h3, h4, m, h5⟩ := f e he
  obtain ⟨o, e0⟩ := Ns_alive h5
  exact ⟨h1, L, h2, st.notMem h3 e0, h4, m, Ns_look h5 fun o e => st.keep L o h3 e⟩
theorem FrOk.fun {B : Heap} {μ : List Addr} {h h' base : Heap} : ∀ {l : List Env}, FrOk B l μ h → (∀ e L, e ∈ l → e.frame = some L → base.get? L = none) → (∀ b o, h.get? b = some o → h'.get? b = some o) → h'.FunFrames base l
  | [], _, _, _ => trivial
  | e :: l, f, p, k => by
    obtain ⟨h1, L, h2, h3, h4, m, o, es, ep, h5, h6, _⟩ := f e (.head _)
    exact ⟨h1, ⟨L, o, h2, p e L (.head _) h2, k _ _ h5, fun vs q => by rw [h6] at q; cases q⟩, FrOk.fun (fun e he => f e (.tail _ he)) (fun e L he => p e L (.tail _ he)) k⟩
theorem funFrames_base {h base base' : Heap} (k : ∀ b, base.get? b = none → base'.get? b = none) : ∀ {l : List Env}, h.FunFrames base l → h.FunFrames base' l
  | [], _ => trivial
  | _ :: _, ⟨h1, ⟨L, o, h2, h3, h4⟩, h5⟩ => ⟨h1, ⟨L, o, h2, k _ h3, h4⟩, funFrames_base k h5⟩
theorem funFrames_at {h h' base : Heap} : ∀ {l : List Env}, h.FunFrames base l → (∀ e, e ∈ l → ∀ L o, e.frame = some L → h.get? L = some o → h'.get? L = some o) → h'.FunFrames base l
  | [], _, _ => trivial
  | e :: _, ⟨h1, ⟨L, o, h2, h3, h4, h6⟩, h5⟩, k => ⟨h1, ⟨L, o, h2, h3, k e (.head _) L o h2 h4, h6⟩, funFrames_at h5 fun e he => k e (.tail _ he)⟩
/-- the slots of dicts may change on the way -/
theorem look_hop {base h' h'' : Heap} {b : Addr} {o : Obj} (e : look h' b = some o) (bs : (∀ es ep, o.data ≠ .dict es ep) → ∃ o', base.get? b = some o') (s1 : base.StaysIn h') (s2 : base.StaysIn h'') (u : h'.UpToSlots h'') : look h'' b = some o := by
  by_cases d : ∃ es ep, o.data = .dict es ep
  · obtain ⟨es, ep, d⟩ := d
    obtain ⟨o', e', rfl⟩ := look_elim e
    rw [nrm_data] at d
    obtain ⟨sl, e2⟩ := u b o' e' fun vs q => by rw [d] at q; cases q
    rw [look_of e2]
    obtain ⟨c, dd, dt, ss⟩ := o'
    have d : dt = .dict es ep := d
    subst d; rfl
  · obtain ⟨o', e'⟩ := bs fun es ep q => d ⟨es, ep, q⟩
    rw [look_of (s1 b o' e')] at e
    rw [look_of (s2 b o' e')]; exact e
theorem StepX.hop {μ μ' : List Addr} {h base h' h'' : Heap} (x : StepX μ μ' h base h') (s1 : base.StaysIn h') (s2 : base.StaysIn h'') (u : h'.UpToSlots h'') : StepX μ μ' h base h'' :=
  ⟨⟨x.step.pre, fun b o n e => look_hop (x.step.keep b o n e) (x.based b o n e) s1 s2 u, x.step.fresh⟩, x.based⟩

section
variable {M : Model} {A : Around} {E : Value → Shared → Prop} {s : Shared} {base : Heap} {l : List Env} {C e : Addr}

theorem fly_set {f : Option Addr} {cls a0 fl : Value} {Q : Unit → Shared → Prop} (k1 : base.StaysIn s.heap) (k2 : s.heap.FunFrames base l) (t : s.heap.TracedAtW base e cls a0 fl)
    (h : ∀ h', base.StaysIn h' → h'.FunFrames base l → (∃ fl, h'.TracedAtW base e cls a0 fl) → s.heap.UpToSlots h' → Q () { s with heap := h' }) : wpAny M A (setFlight (.ref e) f) Q E s := by
  obtain ⟨oe, vs, T, oT, ts, t1, t2, t3, t4, t5, t6, t7, t8, t9⟩ := t
  have sz : 3 < ts.size := (Array.getElem?_eq_some_iff.mp t9).1
  unfold setFlight
  refine wpAny_bind (wpAny_field t1 t3 t4 ?_)
  rw [if_pos (show (Value.ref T != Value.none) = true by simp)]
  have ot : ∀ b, b ≠ T → (s.heap.update T (Obj.mapFields (·.setIfInBounds 3 (f.elim Value.none fun f => rawInt f)))).get? b = s.heap.get? b := fun b q => Heap.get?_update_other _ _ (Ne.symm q)
  have up : s.heap.UpToSlots (s.heap.update T (Obj.mapFields (·.setIfInBounds 3 (f.elim Value.none fun f => rawInt f)))) := fun b o q nf => ⟨o.slots, (ot b fun z => by rw [z, t7] at q; cases q; exact nf ts t8).trans q⟩
  refine wpAny_setField t7 t8 sz (h _ (fun b o q => (ot b fun z => by rw [z, t5] at q; cases q).trans (k1 b o q)) (k2.of_keeps fun b o q nf => let ⟨sl, q'⟩ := up b o q nf; ⟨_, q', rfl⟩) ?_ up)
  exact ⟨_, oe, vs, T, _, _, (ot e (Ne.symm t6)).trans t1, t2, t3, t4, t5, t6, Heap.get?_update_self _ t7 (Obj.isFreed_of_fields (Obj.data_mapFields t8 _)), Obj.data_mapFields t8 _, by rw [Array.getElem?_setIfInBounds_self_of_lt sz]⟩

theorem frameOf_eq {a b : Env} (h : a.frame = b.frame) : frameOf a = frameOf b := by unfold frameOf; rw [h]
theorem noteFrame_eq {a b : Env} (h : a.frame = b.frame) (v : Value) : noteFrame v a = noteFrame v b := by unfold noteFrame; rw [h, frameOf_eq h]

theorem fly_note {env e0 : Env} {outer : List Env} {Q : Unit → Shared → Prop} (hfr : A.frames = some (e0 :: outer)) (he : e0.frame = env.frame) (x : ExcAt base (e0 :: outer) C e s.heap)
    (h : ∀ h', base.StaysIn h' → h'.FunFrames base (e0 :: outer) → (∃ a0 fl, h'.TracedAtW base e (.ref C) a0 fl) → s.heap.UpToSlots h' → Q () { s with heap := h' }) : wpAny M A (noteFrame (.ref e) env) Q E s := by
  rw [noteFrame_eq he.symm]
  obtain ⟨k1, k2, k3, k4⟩ := x
  have ⟨_, ⟨L, oL, hf, _⟩, _⟩ := k3
  unfold noteFrame
  simp only [hf]
  rcases k4 with ⟨oe, vs, a0, t1, t2, t3, t4, t5⟩ | ⟨a0, fl, oe, vs, T, oT, ts, t1, ⟨t2, t0⟩, t3, t4, t5, t6, t7, t8, t9⟩
  · refine wpAny_bind (wpAny_field t1 t3 t5 ?_)
    rw [if_neg (by decide)]
    exact wpAny_entryW hfr k3 hf t1 k1 k2 t3 (Array.getElem?_eq_some_iff.mp t5).1 t4 fun h' n => h h' n.1 n.2.1 ⟨_, _, t2 ▸ n.2.2.1⟩ n.2.2.2
  · refine wpAny_bind (wpAny_field t1 t3 t4 ?_)
    rw [if_pos (show (Value.ref T != Value.none) = true by simp)]
    refine wpAny_bind (wpAny_field t7 t8 t9 ?_)
    by_cases q : (fl == rawInt L) = true
    · rw [if_pos q]
      exact wpAny_pure (h s.heap k1 k3 ⟨a0, fl, oe, vs, T, oT, ts, t1, ⟨t2, t0⟩, t3, t4, t5, t6, t7, t8, t9⟩ (Heap.UpToSlots.refl _))
    · rw [if_neg q]
      have ot : ∀ b, b ≠ T → (s.heap.update T (Obj.mapFields (·.setIfInBounds 3 Value.none))).get? b = s.heap.get? b := fun b q => Heap.get?_update_other _ _ (Ne.symm q)
      have up : s.heap.UpToSlots (s.heap.update T (Obj.mapFields (·.setIfInBounds 3 Value.none))) := fun b o q nf => ⟨o.slots, (ot b fun z => by rw [z, t7] at q; cases q; exact nf ts t8).trans q⟩
      refine wpAny_bind (wpAny_setField t7 t8 (Array.getElem?_eq_some_iff.mp t9).1 ?_)
      refine wpAny_entryW hfr (k3.of_keeps fun b o q nf => let ⟨sl, q'⟩ := up b o q nf; ⟨_, q', rfl⟩) hf ((ot e (Ne.symm t6)).trans t1) (fun b o q => (ot b fun z => by rw [z, t5] at q; cases q).trans (k1 b o q)) k2 t3 (Array.getElem?_eq_some_iff.mp t4).1 t0
        fun h' n => h h' n.1 n.2.1 ⟨_, _, t2 ▸ n.2.2.1⟩ (up.trans n.2.2.2)

theorem fly_leave {env : Env} {outer : List Env} {Q : Unit → Shared → Prop} (hfr : A.frames = some (env :: outer)) (x : ExcAt base (env :: outer) C e s.heap)
    (h : ∀ h', ExcAt base outer C e h' → s.heap.UpToSlots h' → Q () { s with heap := h' }) : wpAny M A (leaving env (.ref e)) Q E s := by
  unfold leaving
  refine wpAny_bind (fly_note hfr rfl x fun h1 k1 k2 ⟨a0, fl, k3⟩ k4 => ?_)
  exact fly_set (s := { s with heap := h1 }) k1 k2 k3 fun h2 n1 n2 ⟨fl', n3⟩ n4 => h h2 ⟨n1, x.2.1, n2.2.2, .inr ⟨a0, fl', n3⟩⟩ (k4.trans n4)

variable {B : Heap} {X : XE} {μ : List Addr} {c : Nat} {σ : MH} {env : Env}

/-- the frame's end of the way: a note, and what follows -/
noncomputable def Here (A : Around) (l : List Env) (env : Env) : Prop := A.frames = some l ∧ ∃ e0 outer, l = e0 :: outer ∧ e0.frame = env.frame

theorem PostX.ofNoted {l : List Env} {R : Value → Shared → Prop} (hh : Here A l env)
    (k : ∀ μ' h' tk e base, HX B μ' σ base c → StepX μ μ' s.heap base h' → base.StaysIn h' → base.get? e = none → h'.FunFrames base l → (∃ a0 fl, h'.TracedAtW base e (.ref (clsK B c)) a0 fl) → R (.ref e) { s with heap := h', toks := tk }) :
    PostX B ⟨l, notedBy M A env R⟩ μ s c σ := fun μ' h' tk e base r st x => by
  obtain ⟨hfr, e0, outer, rfl, he⟩ := hh
  exact fly_note (s := { s with heap := h', toks := tk }) hfr he x fun h2 n1 n2 n3 n4 => k μ' h2 tk e base r (st.hop x.1 n1 n4) n1 x.2.1 n2 n3
theorem came_back {cls a0 fl : Value} (k1 : base.StaysIn s.heap) (k2 : s.heap.FunFrames base l) (t : s.heap.TracedAtW base e cls a0 fl)
    (h : ∀ h', base.StaysIn h' → h'.FunFrames base l → (∃ fl, h'.TracedAtW base e cls a0 fl) → s.heap.UpToSlots h' → E (.ref e) { s with heap := h' }) : cameBackBy M A env E (.ref e) s := by
  have ⟨oe, vs, T, oT, ts, t1, t2, t3, t4, t5, t6, t7, t8, t9⟩ := t
  unfold cameBackBy
  refine wpAny_bind (wpAny_field t1 t3 t4 ?_)
  rw [if_neg (by simp)]
  exact fly_set k1 k2 t h
/-- some addresses that were not there change -/
theorem StepX.cut {P : Addr → Prop} {h h' h'' : Heap} {μ' : List Addr} (x : StepX μ μ' h base h') (hP : ∀ b, P b → h.get? b = none) (k : ∀ b o, ¬ P b → h'.get? b = some o → h''.get? b = some o) : StepX μ μ' h (cut P base) h'' :=
  ⟨⟨x.step.pre, fun b o n e => look_keep (fun o' e' => k b o' (fun q => by obtain ⟨o2, e2, _⟩ := look_elim e; rw [hP b q] at e2; cases e2) e') (x.step.keep b o n e), x.step.fresh⟩, fun b o n e nd => by
    rw [cut_get fun q => by obtain ⟨o2, e2, _⟩ := look_elim e; rw [hP b q] at e2; cases e2]
    exact x.based b o n e nd⟩
theorem cut_less {P : Addr → Prop} {h : Heap} (b : Addr) (e : h.get? b = none) : (cut P h).get? b = none := by
  by_cases p : P b
  · exact cut_none p
  · rw [cut_get p]; exact e
theorem cut_keep {P : Addr → Prop} {h h' h'' : Heap} (s : h.StaysIn h') (k : ∀ b o, ¬ P b → h'.get? b = some o → h''.get? b = some o) : (cut P h).StaysIn h'' := fun b o e => by
  by_cases p : P b
  · rw [cut_none p] at e; cases e
  · rw [cut_get p] at e; exact k b o p (s b o e)
end
end Mine


-- part MiniVal2
set_option maxRecDepth 4000
set_option linter.unusedVariables false
namespace Mine
open PySem PySem.SeqAt

section
variable {B : Heap} {X : XE} {μ : List Addr} {σ : MH} {s : Shared}
variable {prog : Program} {w : World} {A : Around} {E : Value → Shared → Prop} {n : Nat}

noncomputable def boolRes (r : Res Bool) : Res Val := r.bind fun t h => .ok (.bool t) h

theorem inL_get {σ : MH} {v : Val} : ∀ {xs : List Val} {b : Bool}, inL σ v xs = some b → ∃ e : Nat → Bool, (∀ (j : Nat) x, xs[j]? = some x → eqV 4 σ x v = some (e j)) ∧ b = (List.range xs.length).any e
  | [], b, h => ⟨fun _ => true, by simp, by simpa [inL] using h.symm⟩
  | x :: xs, b, h => by
    simp only [inL, Option.bind_eq_some_iff, Option.map_eq_some_iff] at h
    obtain ⟨c, hc, d, hd, e⟩ := h
    obtain ⟨g, h1, h2⟩ := inL_get hd
    refine ⟨fun j => match j with | 0 => c | j + 1 => g j, fun j x' q => ?_, ?_⟩
    · cases j with
      | zero => simp at q; subst q; exact hc
      | succ j => simp at q; exact h1 j x' q
    · rw [← e, h2, List.length_cons, List.range_succ_eq_map]
      simp [List.any_map, Function.comp_def]

theorem VRel.inj {x x' : Val} {y : Value} (r : HRel B μ σ s.heap) (h : VRel μ x y) (h' : VRel μ x' y) : x = x' := by
  cases x <;> cases x' <;> simp only [VRel] at h h'
  all_goals first
    | rfl
    | (subst h; cases h'; done)
    | (subst h; cases h'; rfl)
    | (subst h; obtain ⟨_, q⟩ := h'; cases q; done)
    | (subst h; obtain ⟨_, _, q⟩ := h'; cases q; done)
    | (subst h'; obtain ⟨_, q⟩ := h; cases q; done)
    | (subst h'; obtain ⟨_, _, q⟩ := h; cases q; done)
    | (obtain ⟨_, rfl⟩ := h; obtain ⟨_, q⟩ := h'; cases q; rfl)
    | (obtain ⟨_, rfl⟩ := h; obtain ⟨_, _, q⟩ := h'; cases q; done)
    | (obtain ⟨_, _, rfl⟩ := h; obtain ⟨_, q⟩ := h'; cases q; done)
    | (obtain ⟨_, _, rfl⟩ := h; obtain ⟨_, _, q⟩ := h'; cases q; done)
    | (obtain ⟨_, _, rfl⟩ := h; obtain ⟨_, _, q⟩ := h'; simp at q; rw [q.1]; done)
    | (obtain ⟨_, e, rfl⟩ := h; obtain ⟨_, e', q⟩ := h'; cases q; rw [r.inj _ _ _ e e']; done)

open Classical in
noncomputable def eV (μ : List Addr) (σ : MH) (v : Val) (y : Value) : Bool := decide (∃ x, VRel μ x y ∧ eqV 4 σ x v = some true)
theorem eV_of {v x : Val} {y : Value} (r : HRel B μ σ s.heap) (h : VRel μ x y) : eV μ σ v y = decide (eqV 4 σ x v = some true) := by
  unfold eV
  rw [Bool.eq_iff_iff]; simp only [decide_eq_true_eq]
  exact ⟨fun ⟨x', p, q⟩ => VRel.inj r p h ▸ q, fun q => ⟨x, h, q⟩⟩

theorem eqs_at {v : Val} {v' : Value} {xs : List Val} {ys : List Value} {b : Bool} (r : HRel B μ σ s.heap) (ub : A.units + 4 < cLine) (hv : VRel μ v v') (hy : VsRel μ xs ys) (h : inL σ v xs = some b) :
    ∃ ev : Value → Bool, (∀ y, y ∈ ys.toArray → EqAt A s y v' (ev y)) ∧ ∀ (j : Nat) x (h1 : j < ys.length), xs[j]? = some x → ev ys[j] = decide (eqV 4 σ x v = some true) := by
  obtain ⟨e, he, _⟩ := inL_get h
  have ev : ∀ (j : Nat) x (h1 : j < ys.length), xs[j]? = some x → VRel μ x ys[j] := fun j x h1 q => by
    obtain ⟨x', p1, p2⟩ := hy.get q
    rw [List.getElem?_eq_getElem h1] at p1
    rw [Option.some.inj p1]; exact p2
  refine ⟨eV μ σ v, fun y hm => ?_, fun j x h1 q => eV_of r (ev j x h1 q)⟩
  obtain ⟨j, h1, rfl⟩ := List.getElem_of_mem (show y ∈ ys by simpa using hm)
  have g1 : j < xs.length := by rw [← hy.length]; exact h1
  have q := List.getElem?_eq_getElem g1
  rw [eV_of r (ev j _ h1 q)]
  have k := (eqV_both r ub (ev j _ h1 q) hv (he j _ q)).2.1
  rw [he j _ q]
  cases z : e j <;> rw [z] at k <;> simpa using k

theorem in_sound {v u : Val} {v' u' : Value} {b : Bool} (ok : AOk n A) (r : HRel B μ σ s.heap) (hv : VRel μ v v') (hu : VRel μ u u') (h : inV σ v u = some b) :
    (∀ {Q : Value → Shared → Prop}, Q (.bool b) s → wpAny (model prog w) A (compareOp .In v' u') Q E s) ∧ (∀ {Q : Value → Shared → Prop}, Q (.bool (!b)) s → wpAny (model prog w) A (compareOp .NotIn v' u') Q E s) := by
  cases u with
  | none => cases h
  | bool => cases h
  | int => cases h
  | str x =>
    cases v with
    | str y =>
      cases y with
      | nil => cases h
      | cons c rr =>
        cases rr with
        | cons => cases h
        | nil =>
          obtain ⟨_, t, rfl⟩ := hv; obtain ⟨_, t', rfl⟩ := hu
          have e := PySem.StrLaws.found_one ⟨x.toArray⟩ c
          have h : decide (c ∈ x) = b := Option.some.inj h
          have e : (!(Builtin.Str.occurrences ⟨x.toArray⟩ ⟨[c].toArray⟩ 0 (⟨x.toArray⟩ : Str).length 1).isEmpty) = b := by rw [← h]; exact e
          exact ⟨fun {Q} hQ => PySem.P.in_str (by rw [e]; exact hQ), fun {Q} hQ => PySem.P.notIn_str (by rw [e]; exact hQ)⟩
    | none => cases h
    | bool => cases h
    | int => cases h
    | ref => cases h
  | ref i =>
    obtain ⟨a, ea, rfl⟩ := hu
    have h : (match seqOf σ i with | some (true, xs) => inL σ v xs | some (false, _) => none | none => none) = some b := h
    split at h
    · rename_i xs q
      obtain ⟨l, ys, k, hy, g⟩ := r.seq ea q
      obtain ⟨ev, hall, hev⟩ := eqs_at (A := A.in1) r (by have := ok.u 5; show A.units + 1 + 4 < cLine; omega) hv hy h
      obtain ⟨e, he, hb⟩ := inL_get h
      have hany : ys.toArray.any ev = b := by
        have key : ∀ (j : Nat) (h1 : j < ys.length), ev ys[j] = e j := fun j h1 => by
          have g1 : j < xs.length := by rw [← hy.length]; exact h1
          rw [hev j _ h1 (List.getElem?_eq_getElem g1), he j _ (List.getElem?_eq_getElem g1)]; cases e j <;> rfl
        rw [hb, ← hy.length, List.any_toArray, Bool.eq_iff_iff, List.any_eq_true, List.any_eq_true]
        constructor
        · rintro ⟨y, hm, hq⟩
          obtain ⟨j, h1, rfl⟩ := List.getElem_of_mem hm
          exact ⟨j, List.mem_range.mpr h1, by rw [← key j h1]; exact hq⟩
        · rintro ⟨j, hm, hq⟩
          have h1 : j < ys.length := List.mem_range.mp hm
          exact ⟨_, List.getElem_mem h1, by rw [key j h1]; exact hq⟩
      have hl : s.heap.IsList a ys.toArray := isList_of g
      exact ⟨fun {Q} hQ => in_listAt ev hl hall (by rw [hany]; exact hQ), fun {Q} hQ => notIn_listAt ev hl hall (by rw [hany]; exact hQ)⟩
    · cases h
    · cases h

theorem cmp_sound {op : CmpOp} {v u : Val} {v' u' : Value} {Q : Value → Shared → Prop} (ok : AOk n A) (r : HRel B μ σ s.heap) (hv : VRel μ v v') (hu : VRel μ u u')
    (p : Post B X VRel μ s Q (boolRes (Res.opt (cmpV σ op v u) σ))) : wpAny (model prog w) A (compareOp op v' u') Q E s := by
  cases q : cmpV σ op v u with
  | none => rw [q] at p; exact p.elim
  | some b =>
    rw [q] at p
    have fin : Q (.bool b) s := p.here' r rfl
    have ub : A.units + 8 < cLine := ok.u 8
    cases op with
    | Eq =>
      exact (show wpAny (model prog w) A (richCompare .Eq v' u') Q E s from (eqV_both r ub hv hu q).1 _ _ _ _ fin)
    | NotEq =>
      have q : Option.map (!·) (eqV 8 σ v u) = some b := q
      rw [Option.map_eq_some_iff] at q
      obtain ⟨c, hc, rfl⟩ := q
      exact (show wpAny (model prog w) A (richCompare .NotEq v' u') Q E s from (eqV_both r ub hv hu hc).2.2 _ _ _ _ fin)
    | Is =>
      cases u with
      | none =>
        cases q
        rw [show u' = _ from hu]
        refine is_none ?_
        cases v with
        | none => rw [show v' = _ from hv]; exact fin
        | bool b => rw [show v' = _ from hv]; exact fin
        | int i => obtain ⟨t, rfl⟩ := hv; exact fin
        | str i => obtain ⟨_, t, rfl⟩ := hv; exact fin
        | ref i => obtain ⟨a, _, rfl⟩ := hv; exact fin
      | _ => cases q
    | IsNot =>
      cases u with
      | none =>
        cases q
        rw [show u' = _ from hu]
        refine isNot_none ?_
        cases v with
        | none => rw [show v' = _ from hv]; exact fin
        | bool b => rw [show v' = _ from hv]; exact fin
        | int i => obtain ⟨t, rfl⟩ := hv; exact fin
        | str i => obtain ⟨_, t, rfl⟩ := hv; exact fin
        | ref i => obtain ⟨a, _, rfl⟩ := hv; exact fin
      | _ => cases q
    | In =>
      exact (in_sound ok r hv hu q).1 fin
    | NotIn =>
      have q : Option.map (!·) (inV σ v u) = some b := q
      rw [Option.map_eq_some_iff] at q
      obtain ⟨c, hc, rfl⟩ := q
      exact (in_sound ok r hv hu hc).2 fin
    | Lt =>
      cases v with
      | int x =>
        cases u with
        | int y =>
          obtain ⟨t, rfl⟩ := hv; obtain ⟨t', rfl⟩ := hu
          cases q; exact PyProof.Rows.lt_int fin
        | _ => cases q
      | _ => cases q
    | LtE =>
      cases v with
      | int x =>
        cases u with
        | int y =>
          obtain ⟨t, rfl⟩ := hv; obtain ⟨t', rfl⟩ := hu
          cases q; exact PyProof.Rows.le_int fin
        | _ => cases q
      | _ => cases q
    | Gt =>
      cases v with
      | int x =>
        cases u with
        | int y =>
          obtain ⟨t, rfl⟩ := hv; obtain ⟨t', rfl⟩ := hu
          cases q; exact PyProof.Rows.gt_int fin
        | _ => cases q
      | _ => cases q
    | GtE =>
      cases v with
      | int x =>
        cases u with
        | int y =>
          obtain ⟨t, rfl⟩ := hv; obtain ⟨t', rfl⟩ := hu
          cases q; exact PyProof.Rows.ge_int fin
        | _ => cases q
      | _ => cases q

end
end Mine


-- part MiniVal3
set_option maxRecDepth 4000
set_option linter.unusedVariables false
namespace Mine
open PySem PySem.SeqAt

section
variable {B : Heap} {X : XE} {μ : List Addr} {σ : MH} {s : Shared}
variable {prog : Program} {w : World} {A : Around} {E : Value → Shared → Prop} {n : Nat}

theorem un_sound {op : UnaryOp} {v : Val} {v' : Value} {Q : Value → Shared → Prop} (r : HRel B μ σ s.heap) (hv : VRel μ v v') (p : Post B X VRel μ s Q (unV σ op v)) : wpAny (model prog w) A (unaryOp op v') Q E s := by
  unfold unV at p
  split at p
  · split at p
    · rename_i b hb
      refine not_value (truthy_sound (X := X) r hv ?_)
      rw [hb]
      intro μ' b' h' tk r' st e
      rw [← show b = b' from e]
      exact p μ' _ h' tk r' st rfl
    · exact p.elim
  · obtain ⟨t, rfl⟩ := hv
    exact PyProof.Rows.neg_int (p.here r ⟨_, rfl⟩)
  · exact p.elim

noncomputable def tyName : Ty → String
  | .int => "int" | .bool => "bool" | .list => "list" | .tuple => "tuple" | .str => "str"

theorem isinst_sound {ty : Ty} {v : Val} {v' : Value} {Q : Value → Shared → Prop} (r : HRel B μ σ s.heap) (hv : VRel μ v v') (p : Post B X VRel μ s Q (boolRes (Res.opt (isInstV σ ty v) σ))) :
    wpAny (model prog w) A (call (.builtin "isinstance") [v', .type (tyName ty)]) Q E s := by
  cases v with
  | none =>
    rw [show v' = _ from hv]
    cases ty
    · exact IsiPair.NoneType_int (p.here r rfl)
    · exact IsiPair.NoneType_bool (p.here r rfl)
    · exact IsiPair.NoneType_list (p.here r rfl)
    · exact IsiPair.NoneType_tuple (p.here r rfl)
    · exact IsiPair.NoneType_str (p.here r rfl)
  | bool b =>
    rw [show v' = _ from hv]
    cases ty
    · exact IsiPair.bool_int (p.here' r rfl)
    · exact IsiPair.bool_bool (p.here' r rfl)
    · exact IsiPair.bool_list (p.here r rfl)
    · exact IsiPair.bool_tuple (p.here r rfl)
    · exact IsiPair.bool_str (p.here r rfl)
  | int i =>
    obtain ⟨t, rfl⟩ := hv
    cases ty
    · exact IsiPair.int_int (p.here' r rfl)
    · exact IsiPair.int_bool (p.here r rfl)
    · exact IsiPair.int_list (p.here r rfl)
    · exact IsiPair.int_tuple (p.here r rfl)
    · exact IsiPair.int_str (p.here r rfl)
  | str i =>
    obtain ⟨_, t, rfl⟩ := hv
    cases ty
    · exact IsiPair.str_int (p.here r rfl)
    · exact IsiPair.str_bool (p.here r rfl)
    · exact IsiPair.str_list (p.here r rfl)
    · exact IsiPair.str_tuple (p.here r rfl)
    · exact IsiPair.str_str (p.here' r rfl)
  | ref i =>
    obtain ⟨a, ea, rfl⟩ := hv
    cases q : seqOf σ i with
    | none =>
      have e : isInstV σ ty (.ref i) = none := by cases ty <;> (show Option.map _ (seqOf σ i) = none; rw [q]; rfl)
      rw [e] at p; exact p.elim
    | some z =>
      obtain ⟨k, xs⟩ := z
      obtain ⟨l, ys, m, hy, g⟩ := r.seq ea q
      have e : isInstV σ ty (.ref i) = some (match ty with | .list => k | .tuple => !k | _ => false) := by cases ty <;> (show Option.map _ (seqOf σ i) = _; rw [q]; rfl)
      rw [e] at p
      cases k <;> simp only [Bool.false_eq_true, if_false, if_true] at g <;> cases ty
      · exact IsiPair.tuple_int g rfl (p.here r rfl)
      · exact IsiPair.tuple_bool g rfl (p.here r rfl)
      · exact IsiPair.tuple_list g rfl (p.here r rfl)
      · exact IsiPair.tuple_tuple g rfl (p.here' r rfl)
      · exact IsiPair.tuple_str g rfl (p.here r rfl)
      · exact IsiPair.list_int g rfl (p.here r rfl)
      · exact IsiPair.list_bool g rfl (p.here r rfl)
      · exact IsiPair.list_list g rfl (p.here' r rfl)
      · exact IsiPair.list_tuple g rfl (p.here r rfl)
      · exact IsiPair.list_str g rfl (p.here r rfl)

theorem sub_sound {v u : Val} {v' u' : Value} {value slice : Expr} {Q : Value → Shared → Prop} (r : HRel B μ σ s.heap) (hv : VRel μ v v') (hu : VRel μ u u') (p : Post B X VRel μ s Q (Res.opt (subV σ v u) σ))
    (hs : subscripted slice false v' u' = operate [v', u'] (getItem v' u')) : wpAny (model prog w) A (PyProof.Rows.subscriptTail value slice v' u') Q E s := by
  cases q : subV σ v u with
  | none => rw [q] at p; exact p.elim
  | some x =>
    rw [q] at p
    unfold subV at q
    split at q
    · rename_i x' k
      obtain ⟨l, t, rfl⟩ := hv; obtain ⟨t', rfl⟩ := hu
      simp only [Option.bind_eq_some_iff, Option.map_eq_some_iff] at q
      obtain ⟨j, hj, c, hc, rfl⟩ := q
      obtain ⟨i1, i2, i3, i4⟩ := idx_seq hj
      have l' : x'.length ≤ 1048576 := l
      refine PyProof.Rows.tail_any (T := "str") (typeIs_str _ _ _) F.slot_str_getitem.lookup (P.getItem_str (by simp; omega) (c := c) ?_ (p.here r ⟨by simp [lim], _, rfl⟩)) hs
      rw [strLen, i1]; simpa using hc
    · rename_i i k
      obtain ⟨a, ea, rfl⟩ := hv; obtain ⟨t', rfl⟩ := hu
      simp only [Option.bind_eq_some_iff] at q
      obtain ⟨⟨kk, xs⟩, hz, j, hj, hx⟩ := q
      obtain ⟨i1, i2, i3, i4⟩ := idx_seq hj
      obtain ⟨l, ys, m, hy, g⟩ := r.seq ea hz
      simp only at hx hj i1 i2 i3 i4
      obtain ⟨y, e1, e2⟩ := hy.get hx
      have l' : xs.length ≤ 1048576 := l
      have ll := hy.length
      cases kk
      · refine PyProof.Rows.tail_any (T := "tuple") ⟨_, g, rfl⟩ F.slot_tuple_getitem.lookup (P.getItem_tuple g (by omega) (by omega) (k := j) (by simpa [ll] using i1) (by simpa using e1) (p.here' r e2)) hs
      · have hl : s.heap.IsList a ys.toArray := isList_of g
        by_cases h0 : 0 ≤ k
        · have : j = k.toNat := by rw [seqIndex_of h0 i4] at i1; exact (Option.some.inj i1).symm
          subst this
          exact PyProof.Rows.tail_any hl.typeIs slot_list_getitem.lookup (wpAny_getItem_list hl h0 (by omega) (by simpa using e1) (p.here' r e2)) hs
        · have : j = (k + xs.length).toNat := by rw [seqIndex_neg (by omega) (by omega)] at i1; exact (Option.some.inj i1).symm
          subst this
          exact PyProof.Rows.tail_any hl.typeIs slot_list_getitem.lookup (wpAny_getItem_list_neg hl (by omega) (by simp [ll]; omega) (by omega) (by simpa [ll] using e1) (p.here' r e2)) hs
    · cases q

noncomputable def URel (_ : List Addr) (_ _ : Unit) : Prop := True

theorem setItem_exact {l : Addr} {items : Array Value} {m : Nat} {k : Int} {t : Tok} {v : Value} {Q : Unit → Shared → Prop} (ho : s.heap.get? l = some { cls := .type "list", dict := none, data := .seq items m, slots := #[] })
    (h0 : 0 ≤ k) (hfit : k < 2 ^ 63) (hn : k < items.size) (hQ : Q () { s with heap := s.heap.update l (Obj.mapSeq (·.setIfInBounds k.toNat v)) }) : wpAny (model prog w) A (setItem (.ref l) (.int k t) v) Q E s := by
  have hl : s.heap.IsList l items := ⟨_, ho, rfl, m, rfl⟩
  unfold setItem
  try with_reducible refine wpAny_holding ?_
  first | refine wpAny_bind (wpAny_pure ?_) | skip
  refine wpAny_bind (wpAny_sequenceKey hl.typeIs (by decide) ?_)
  refine wpAny_bind (wpAny_callSpecial?_slot (name := Str.ofString "__setitem__") hl.typeIs slot_list_setitem
    (wpAny_call_entry slot_list_setitem hl.typeIs entry_list_setitem ?_ (args_list_setitem _ _ _)))
  show wpAny _ _ (Builtin.List.listSubscript? (.int k t) >>= _) _ _ s
  refine wpAny_bind (wpAny_listSubscript_int (fitsIndex_of h0 hfit) ?_)
  clear hfit
  obtain ⟨j, rfl⟩ := Int.eq_ofNat_of_zero_le h0
  have hj : j < items.size := by omega
  have hx' : items[j]? = some items[j] := Array.getElem?_eq_getElem hj
  show wpAny _ _ ((seqItemAt l j >>= fun r => pure (r.map (j, ·))) >>= _) _ _ s
  refine wpAny_bind (wpAny_bind (wpAny_seqItemAt ho rfl (wpAny_pure ?_)))
  rw [hx']
  show wpAny _ _ (setSeqItemAt l j v >>= _) _ _ s
  refine wpAny_bind (wpAny_setSeqItemAt ho rfl ?_)
  first
    | exact wpAny_bind (wpAny_pure (wpAny_pure ⟨.none, rfl, wpAny_pure hQ⟩))
    | exact wpAny_pure ⟨.none, rfl, wpAny_pure hQ⟩

theorem asub_sound {v u x : Val} {v' u' x' : Value} {Q : Unit → Shared → Prop} (r : HRel B μ σ s.heap) (hv : VRel μ v v') (hu : VRel μ u u') (hx : VRel μ x x') (p : Post B X URel μ s Q (asubV σ v u x)) :
    wpAny (model prog w) A (setItem v' u' x') Q E s := by
  unfold asubV at p
  split at p
  · rename_i i k
    obtain ⟨a, ea, rfl⟩ := hv; obtain ⟨t', rfl⟩ := hu
    split at p
    · rename_i xs hz
      split at p
      · rename_i hj
        obtain ⟨l, ys, m, g, hy⟩ := r.at ea hz
        have l' : xs.length ≤ 1048576 := l
        have ll := hy.length
        refine setItem_exact g hj.1 (by omega) (by simp [ll]; omega) ?_
        refine p.upd (w := ()) r ea hz rfl (fun b y nb e => (Heap.get?_update_other _ _ (Ne.symm nb)).trans e) ⟨by simpa using l, ys.set k.toNat x', m, ?_, hy.set _ hx⟩ trivial
        rw [Heap.get?_update_self _ g rfl]
        simp [Obj.mapSeq]
      · exact p.elim
    · exact p.elim
  · exact p.elim

end
end Mine


-- part MiniTxt
set_option maxRecDepth 100000
set_option linter.unusedVariables false
namespace Mine
open PySem PySem.SeqAt PySem.NumText

theorem num_digits {s : List Nat} (h : isNum s = true) : AllDigits s ∧ s ≠ [] ∧ s.length ≤ 640 := by
  unfold isNum at h
  simp only [Bool.and_eq_true, decide_eq_true_eq, List.all_eq_true] at h
  exact ⟨fun c hc => h.1.2 c hc, fun e => by rw [e] at h; simp at h, h.2⟩

theorem read_num {s : List Nat} (h : isNum s = true) : numTextOf ⟨s.toArray⟩ = s ∧ s.takeWhile (· != 0) = s ∧ (int_private% "readNumeral") 0 10 s = (int_private% "Numeral.value") (decVal s : Nat) := by
  obtain ⟨h1, h2, h3⟩ := num_digits h
  obtain ⟨e1, e2⟩ := numText_signs (x := ⟨s.toArray⟩) fun c hc => .inr (h1 c (by simpa using hc))
  have e1 : numTextOf ⟨s.toArray⟩ = s := e1
  have e2 : numSeenOf ⟨s.toArray⟩ = s := e2
  refine ⟨e1, ?_, ?_⟩
  · have : (numTextOf ⟨s.toArray⟩).takeWhile (· != 0) = s := e2
    rwa [e1] at this
  · have hi := intText_digits (x := ⟨s.toArray⟩) (by simpa using h1) (by simpa using h2) (by simp [Str.length]; omega)
    rcases read0 ⟨s.toArray⟩ (by rw [e2]; exact h3) with ⟨m, a1, _, a3⟩ | ⟨a1, _⟩
    · rw [hi] at a1
      rw [e2] at a3
      rw [a3]
      injection a1 with a1
      rw [← a1]; rfl
    · rw [hi] at a1; cases a1

theorem str_int : typeLookup (.type "str") "__int__" = pure none := by rw [typeLookup_type, builtinLookup_eq_fast]; kernel_rfl
theorem str_index : typeLookup (.type "str") "__index__" = pure none := by rw [typeLookup_type, builtinLookup_eq_fast]; kernel_rfl
theorem str_trunc : typeLookup (.type "str") "__trunc__" = pure none := by rw [typeLookup_type, builtinLookup_eq_fast]; kernel_rfl

set_option maxHeartbeats 4000000 in
theorem from_text {M : Model} {A : Around} {E : Value → Shared → Prop} {st : Shared} {Q : Value → Shared → Prop} {v : Value} {s x : List Nat} (h : isNum s = true) (hx : x = s) (hQ : Q (.int (decVal s : Nat) st.toks) { st with toks := st.toks + 1 }) :
    wpAny M A ((int_private% "intFromText") v x 10) Q E st := by
  subst hx
  revert h hQ; generalize x = s; intro h hQ
  obtain ⟨_, e2, e3⟩ := read_num h
  have h3 := (num_digits h).2.2
  obtain ⟨hp, g, d, tk, os⟩ := st
  have a1 : (s.takeWhile (· != 0)).length ≤ 640 := by rw [e2]; exact h3
  have a2 : ((s.takeWhile (· != 0)).length == s.length) = true := by rw [e2]; exact beq_self_eq_true _
  have a3 : (int_private% "readNumeral") 0 10 (s.takeWhile (· != 0)) = (int_private% "Numeral.value") (decVal s : Nat) := by rw [e2]; exact e3
  clear e2 e3 h3
  wp_delta
  refine wpAny_ite_true (decide_eq_true a1) (wpAny_bind (wpAny_pure ?_))
  dsimp only
  rw [a3]
  exact wpAny_ite_true (decide_eq_true a2) (wpAny_mkInt hQ)

set_option maxHeartbeats 4000000 in
theorem int_text {s : List Nat} {u : Tok} (h : isNum s = true) : Gives (Builtin.«int.__new__» ⟨[.type "int", .str ⟨s.toArray⟩ u], []⟩) (.int (decVal s : Nat)) := .of_wp fun M A E st Q hQ => by
  obtain ⟨hp, g, d, tk, os⟩ := st
  have f1 := F.conv_sub_int
  have f2 := F.madeHere_int
  have f3 := str_int
  have f4 := str_index
  have f5 := str_trunc
  have f6 : typeOf (.str ⟨s.toArray⟩ u) = pure (.type "str") := rfl
  have e1 : (if s.toArray.all (· < 128) then s.toArray.toList else Unicode.numberText s.toArray.toList) = s := (read_num h).1
  repeat (any_goals (first
    | assumption
    | ((with_reducible show wpAny _ _ ((int_private% "intFromText") _ _ _) _ _ _); refine from_text h e1 ?_)
    | wp_step))
  exact ⟨_, rfl, hQ⟩
theorem split_one {c : Nat} : ∀ {l : List Nat}, c ∉ l → splitBy c l = [l]
  | [], _ => rfl
  | a :: l, h => by
    have e : splitBy c (a :: l) = headAdd a (splitBy c l) := if_neg (fun e => h (by rw [e]; exact .head _))
    rw [e, split_one (fun m => h (.tail _ m))]; rfl
theorem split_more {c : Nat} {r : List Nat} : ∀ {l : List Nat}, c ∉ l → splitBy c (l ++ c :: r) = l :: splitBy c r
  | [], _ => if_pos rfl
  | a :: l, h => by
    have e : splitBy c (a :: (l ++ c :: r)) = headAdd a (splitBy c (l ++ c :: r)) := if_neg (fun e => h (by rw [e]; exact .head _))
    show splitBy c (a :: (l ++ c :: r)) = _
    rw [e, split_more (fun m => h (.tail _ m))]; rfl
theorem split_join (c : Nat) : ∀ (p : Str) (ps : List Str), (∀ q ∈ p :: ps, c ∉ q.cps.toList) → (p :: ps).map (·.cps.toList) = splitBy c (Str.join ⟨#[c]⟩ (p :: ps)).cps.toList := by
  intro p ps
  induction ps generalizing p with
  | nil => intro h; show [p.cps.toList] = splitBy c p.cps.toList; rw [split_one (h p (.head _))]
  | cons q ps ih =>
    intro h
    show p.cps.toList :: (q :: ps).map (·.cps.toList) = splitBy c (p ++ ⟨#[c]⟩ ++ Str.join ⟨#[c]⟩ (q :: ps)).cps.toList
    rw [ih q (fun r hr => h r (.tail _ hr))]
    have e : (p ++ ⟨#[c]⟩ ++ Str.join ⟨#[c]⟩ (q :: ps)).cps.toList = p.cps.toList ++ c :: (Str.join ⟨#[c]⟩ (q :: ps)).cps.toList := by
      simp [Str.cps_append]
    rw [e, split_more (h p (.head _))]
theorem split_txt (c : Nat) (x : List Nat) : (Txt.split ⟨x.toArray⟩ ⟨#[c]⟩).map (·.cps.toList) = splitBy c x := by
  have h1 := PySem.StrLaws.split_free ⟨x.toArray⟩ c
  have h2 := PySem.StrLaws.join_split ⟨x.toArray⟩ ⟨#[c]⟩
  have h3 := PyProof.Rows.split_pos ⟨x.toArray⟩ ⟨#[c]⟩
  generalize Txt.split ⟨x.toArray⟩ ⟨#[c]⟩ = l at *
  cases l with
  | nil => simp at h3
  | cons p ps => rw [split_join c p ps h1, h2]
theorem join_txt (sep : List Nat) : ∀ ws : List (List Nat), Str.join ⟨sep.toArray⟩ (ws.map fun w => ⟨w.toArray⟩) = ⟨(joinBy sep ws).toArray⟩
  | [] => rfl
  | w :: ws => by
    have key : ∀ (vs : List (List Nat)) (w : List Nat), Str.join ⟨sep.toArray⟩ ((w :: vs).map fun w => ⟨w.toArray⟩) = ⟨(w ++ joinTl sep vs).toArray⟩ := fun vs => by
      induction vs with
      | nil => intro w; show _ = (⟨(w ++ []).toArray⟩ : Str); rw [List.append_nil]; rfl
      | cons v vs ih =>
        intro w
        show (⟨w.toArray⟩ : Str) ++ ⟨sep.toArray⟩ ++ Str.join ⟨sep.toArray⟩ ((v :: vs).map fun w => ⟨w.toArray⟩) = _
        rw [ih v]
        show Str.append (Str.append _ _) _ = (⟨(w ++ (sep ++ v ++ joinTl sep vs)).toArray⟩ : Str)
        unfold Str.append
        simp
    exact key ws w
theorem join_sum (sep : List Nat) : ∀ (ws : List (List Nat)) (a : Nat), (ws.map fun w => (⟨w.toArray⟩ : Str)).foldl (fun n w => n + w.length + (⟨sep.toArray⟩ : Str).length) a = a + (joinTl sep ws).length
  | [], a => rfl
  | w :: ws, a => by
    rw [List.map_cons, List.foldl_cons, join_sum sep ws]
    simp only [joinTl, List.length_append, Str.length, List.size_toArray]; omega
theorem join_len (sep : List Nat) : ∀ ws : List (List Nat), (joinTl sep ws).length ≤ (joinBy sep ws).length + sep.length
  | [] => by simp [joinTl]
  | w :: ws => by simp only [joinTl, joinBy, List.length_append]; omega
end Mine


-- part MiniVal4
set_option maxRecDepth 4000
set_option linter.unusedVariables false
namespace Mine
open PySem PySem.SeqAt

section
variable {B : Heap} {X : XE} {μ : List Addr} {σ : MH} {s : Shared}
variable {prog : Program} {w : World} {A : Around} {E : Value → Shared → Prop} {n : Nat}

noncomputable def biFn : BI → Value
  | .len => .builtin "len" | .sum => .builtin "sum" | .min => .builtin "min" | .max => .builtin "max" | .all => .builtin "all"
  | .int => .type "int" | .str => .type "str" | .list => .type "list"

theorem intsOf_rel : ∀ {xs : List Val} {ys : List Value} {ns : List Int}, VsRel μ xs ys → intsOf xs = some ns → ns.length = ys.length ∧ ∀ (i : Nat) v, ys[i]? = some v → ∃ t, v = .int (ns.getD i 0) t
  | [], _, _, h, e => by rw [show _ = [] from h]; cases e; exact ⟨rfl, by simp⟩
  | x :: xs, _, ns, ⟨y, ys, e, r, rs⟩, q => by
    subst e
    cases x <;> simp only [intsOf] at q <;> try (cases q)
    simp only [Option.map_eq_some_iff] at q
    obtain ⟨ms, hm, rfl⟩ := q
    obtain ⟨t, rfl⟩ := r
    obtain ⟨h1, h2⟩ := intsOf_rel rs hm
    refine ⟨by simp [h1], fun i v hv => ?_⟩
    cases i with
    | zero => simp at hv; exact ⟨t, by simp [← hv]⟩
    | succ i => simp at hv; obtain ⟨t', ht⟩ := h2 i v hv; exact ⟨t', by simpa using ht⟩

theorem boolsOf_rel : ∀ {xs : List Val} {ys : List Value} {bs : List Bool}, VsRel μ xs ys → boolsOf xs = some bs → bs.length = ys.length ∧ ∀ (i : Nat) v, ys[i]? = some v → v = .bool (bs.getD i true)
  | [], _, _, h, e => by rw [show _ = [] from h]; cases e; exact ⟨rfl, by simp⟩
  | x :: xs, _, ns, ⟨y, ys, e, r, rs⟩, q => by
    subst e
    cases x <;> simp only [boolsOf] at q <;> try (cases q)
    simp only [Option.map_eq_some_iff] at q
    obtain ⟨ms, hm, rfl⟩ := q
    rw [show y = _ from r]
    obtain ⟨h1, h2⟩ := boolsOf_rel rs hm
    refine ⟨by simp [h1], fun i v hv => ?_⟩
    cases i with
    | zero => simp at hv; simp [← hv]
    | succ i => simp at hv; simpa using h2 i v hv

theorem range_all (bs : List Bool) : (List.range bs.length).all (fun i => bs.getD i true) = bs.all id := by
  rw [Bool.eq_iff_iff, List.all_eq_true, List.all_eq_true]
  constructor
  · intro h b hb
    obtain ⟨j, h1, rfl⟩ := List.getElem_of_mem hb
    have := h j (by simpa using h1)
    simpa [List.getD, List.getElem?_eq_getElem h1] using this
  · intro h j hj
    have h1 : j < bs.length := by simpa using hj
    have := h _ (List.getElem_mem h1)
    simpa [List.getD, List.getElem?_eq_getElem h1] using this

theorem listIter_fresh {a : Addr} {ys : List Value} {m : Nat} (g : s.heap.get? a = some (listObj ys m)) : a ≠ s.heap.objs.size := Nat.ne_of_lt (Heap.lt_size g)

theorem listWalk {a : Addr} {ys : List Value} {m : Nat} (g : s.heap.get? a = some (listObj ys m)) : let h₂ := s.heap.push { cls := .type "list_iterator", data := .fields #[.ref a, .int 0 0] }
    h₂.IsListIter s.heap.objs.size a 0 ∧ h₂.IsList a ys.toArray ∧ (∀ b ∈ [s.heap.objs.size, a], b < h₂.objs.size) :=
  ⟨⟨_, Heap.get?_push_size _ rfl, rfl, rfl⟩, isList_of (Heap.get?_push_of_some _ g), fun b hb => by
    have := Heap.lt_size g
    simp only [List.mem_cons, List.not_mem_nil, or_false] at hb
    show b < (s.heap.push _).objs.size
    rw [Heap.size_push]
    rcases hb with rfl | rfl
    · exact Nat.lt_succ_self _
    · exact Nat.lt_succ_of_lt this⟩

theorem keep_wr {h' : Heap} {o : Obj} (k : ∀ b ob, b ∉ [s.heap.objs.size] → (s.heap.push o).get? b = some ob → h'.get? b = some ob) : ∀ b ob, s.heap.get? b = some ob → h'.get? b = some ob := fun b ob e =>
  k b ob (by simp; exact Nat.ne_of_lt (Heap.lt_size e)) (Heap.get?_push_of_some _ e)

theorem bi_sound {b : BI} {vs : List Val} {ws : List Value} {Q : Value → Shared → Prop} (ok : AOk n A) (r : HRel B μ σ s.heap) (hv : VsRel μ vs ws) (p : Post B X VRel μ s Q (biV σ b vs)) : wpAny (model prog w) A (call (biFn b) ws) Q E s := by
  cases vs with
  | nil => exact p.elim
  | cons v0 vs =>
    cases vs with
    | nil =>
      cases b with
      | len =>
        cases v0 with
        | str x' =>
          obtain ⟨x, _, rfl, hx, rfl⟩ := hv
          obtain ⟨l, t, rfl⟩ := hx
          have l' : x'.length ≤ 1048576 := l
          refine P.len_str (by rw [strLen]; omega) ?_
          rw [strLen]; exact p.here r ⟨_, rfl⟩
        | ref i =>
          have p : Post B X VRel μ s Q (match seqOf σ i with | some (_, xs) => .ok (.int xs.length) σ | none => .stuck) := p
          obtain ⟨x, _, rfl, hx, rfl⟩ := hv
          obtain ⟨a, ea, rfl⟩ := hx
          split at p
          · rename_i k xs hq
            obtain ⟨l, ys, m, hy, g⟩ := r.seq ea hq
            have l' : xs.length ≤ 1048576 := l
            have ll := hy.length
            cases k
            · refine P.len_tuple g (by simp; omega) ?_
              have : ((ys.toArray.size : Nat) : Int) = (xs.length : Int) := by simp [ll]
              rw [this]; exact p.here r ⟨_, rfl⟩
            · refine Calls.call_len_list (isList_of g) (by simp; omega) ?_
              have : ((ys.toArray.size : Nat) : Int) = (xs.length : Int) := by simp [ll]
              rw [this]; exact p.here r ⟨_, rfl⟩
          · exact p.elim
        | _ => exact p.elim
      | sum =>
        cases v0 with
        | ref i =>
          have p : Post B X VRel μ s Q (match σ[i]? with | some (.list xs) => (match intsOf xs with | some ns => .ok (.int ns.sum) σ | none => .stuck) | _ => .stuck) := p
          obtain ⟨x, _, rfl, hx, rfl⟩ := hv
          obtain ⟨a, ea, rfl⟩ := hx
          split at p
          · rename_i xs hq
            split at p
            · rename_i ns hn
              obtain ⟨l, ys, m, g, hy⟩ := r.at ea hq
              obtain ⟨n1, n2⟩ := intsOf_rel hy hn
              obtain ⟨w1, w2, w3⟩ := listWalk g
              refine call_sum_walkG (wpAny_pyIter_list (isList_of g) ⟨_, _, _, _, _, _, fun i => ns.getD i 0, rfl, Walks.list (A := A.in1) ok.handled _ a (listIter_fresh g) ys.toArray, ⟨w1, w2⟩, w3, fun i v hi => ?_, fun h' tk t' k => ?_⟩)
              · obtain ⟨t, ht⟩ := n2 i v (by simpa using hi); exact ⟨t, ht⟩
              · rw [PyProof.Rows.preSum_getD, List.take_of_length_le (by simp [n1])]
                exact Post.grow (s := s) r p (keep_wr (s := s) k) ⟨_, rfl⟩
            · exact p.elim
          · exact p.elim
        | _ => exact p.elim
      | all =>
        cases v0 with
        | ref i =>
          have p : Post B X VRel μ s Q (match σ[i]? with | some (.list xs) => (match boolsOf xs with | some bs => .ok (.bool (bs.all id)) σ | none => .stuck) | _ => .stuck) := p
          obtain ⟨x, _, rfl, hx, rfl⟩ := hv
          obtain ⟨a, ea, rfl⟩ := hx
          split at p
          · rename_i xs hq
            split at p
            · rename_i bs hn
              obtain ⟨l, ys, m, g, hy⟩ := r.at ea hq
              obtain ⟨n1, n2⟩ := boolsOf_rel hy hn
              obtain ⟨w1, w2, w3⟩ := listWalk g
              refine call_all_walk (wpAny_pyIter_list (isList_of g) ⟨_, _, _, _, _, _, fun i => bs.getD i true, rfl, Walks.list (A := A.in1) ok.handled _ a (listIter_fresh g) ys.toArray, ⟨w1, w2⟩, fun i v s' Q' E' hi hQ => ?_, fun h' tk k => ?_⟩)
              · rw [n2 i v (by simpa using hi)]; exact wpAny_truthy_bool hQ
              · have : ys.toArray.size = bs.length := by simp [n1]
                rw [this, range_all]
                exact Post.grow (s := s) r p (keep_wr (s := s) k) rfl
            · exact p.elim
          · exact p.elim
        | _ => exact p.elim
      | int =>
        cases v0 with
        | bool b =>
          obtain ⟨x, _, rfl, hx, rfl⟩ := hv
          rw [show x = _ from hx]
          exact call_int_bool (p.here r ⟨_, rfl⟩)
        | str x =>
          obtain ⟨y, _, rfl, hy, rfl⟩ := hv
          obtain ⟨l, t, rfl⟩ := hy
          have p : Post B X VRel μ s Q (if isNum x then .ok (.int (decVal x)) σ else .stuck) := p
          split at p
          · rename_i hn
            exact call_int_1 (int_text hn).meets (show (Made.int (decVal x : Nat)).post _ s from ⟨rfl, p.here r ⟨_, rfl⟩⟩)
          · exact p.elim
        | _ => exact p.elim
      | list =>
        cases v0 with
        | ref i =>
          have p : Post B X VRel μ s Q (match σ[i]? with | some (.list xs) => newList xs σ | _ => .stuck) := p
          obtain ⟨x, _, rfl, hx, rfl⟩ := hv
          obtain ⟨a, ea, rfl⟩ := hx
          split at p
          · rename_i xs hq
            obtain ⟨l, ys, m, g, hy⟩ := r.at ea hq
            have l' : xs.length ≤ 1048576 := l
            have ll := hy.length
            refine call_list_seq a (.inl rfl) g rfl rfl (fun h' c' k e => ?_) (by simp [ll]; show _ ≤ 2 ^ 24; omega)
            exact p.newList r k e hy
          · exact p.elim
        | _ => exact p.elim
      | _ => exact p.elim
    | cons v1 vs =>
      cases vs with
      | cons => exact p.elim
      | nil =>
        cases b with
        | min =>
          cases v0 with
          | int a =>
            cases v1 with
            | int c =>
              have p : Post B X VRel μ s Q (.ok (.int (if c < a then c else a)) σ) := p
              obtain ⟨x, _, rfl, ⟨t, rfl⟩, y, _, rfl, ⟨u, rfl⟩, rfl⟩ := hv
              refine min_two_ints ok.handled fun h' tk k => ?_
              split <;> rename_i hc
              · rw [if_pos hc] at p; exact p.grow r k ⟨_, rfl⟩
              · rw [if_neg hc] at p; exact p.grow r k ⟨_, rfl⟩
            | _ => exact p.elim
          | _ => exact p.elim
        | max =>
          cases v0 with
          | int a =>
            cases v1 with
            | int c =>
              have p : Post B X VRel μ s Q (.ok (.int (if c > a then c else a)) σ) := p
              obtain ⟨x, _, rfl, ⟨t, rfl⟩, y, _, rfl, ⟨u, rfl⟩, rfl⟩ := hv
              refine max_two_ints ok.handled fun h' tk k => ?_
              split <;> rename_i hc
              · rw [if_pos hc] at p; exact p.grow r k ⟨_, rfl⟩
              · rw [if_neg hc] at p; exact p.grow r k ⟨_, rfl⟩
            | _ => exact p.elim
          | _ => exact p.elim
        | _ => exact p.elim

end
end Mine


-- part MiniVal5
set_option maxRecDepth 4000
set_option linter.unusedVariables false
namespace Mine
open PySem PySem.SeqAt

section
variable {B : Heap} {X : XE} {μ : List Addr} {σ : MH} {s : Shared}
variable {prog : Program} {w : World} {A : Around} {E : Value → Shared → Prop} {n : Nat}

/-- the method's built-in -/
noncomputable def meFn (m : Me) : String := match m with
  | .append => "list.append"
  | .join => "str.join"
  | .split => "str.split"
  | .sidx => "str.index"

theorem upd_keep {h : Heap} {a : Addr} {f : Obj → Obj} : ∀ b x, b ≠ a → h.get? b = some x → (h.update a f).get? b = some x := fun _ _ nb e => (Heap.get?_update_other _ _ (Ne.symm nb)).trans e

/-- a list of ours turned by a function on its items -/
theorem Post.updList {α β : Type} {V : List Addr → α → β → Prop} {Q : β → Shared → Prop} {v : α} {w : β} {i : Nat} {a : Addr} {xs xs' : List Val} {ys ys' : List Value} {m : Nat} {f : Array Value → Array Value} {tk : Nat}
    (r : HRel B μ σ s.heap) (p : Post B X V μ s Q (.ok v (σ.set i (.list xs')))) (e : μ[i]? = some a) (q : σ[i]? = some (.list xs)) (g : s.heap.get? a = some (listObj ys m)) (hf : f ys.toArray = ys'.toArray)
    (hl : xs'.length ≤ lim) (hy : VsRel μ xs' ys') (hv : V μ v w) : Q w { s with heap := s.heap.update a (Obj.mapSeq f), toks := tk } := by
  refine p.upd r e q rfl upd_keep ⟨hl, ys', if (f ys.toArray).size == ys.toArray.size then m else m + 1, ?_, hy⟩ hv
  rw [Heap.get?_update_self _ g rfl]
  simp only [Obj.mapSeq, hf]

theorem onL_elim {Q : Value → Shared → Prop} {v : Val} {v' : Value} {f : Nat → List Val → Res Val} (r : HRel B μ σ s.heap) (hv : VRel μ v v') (p : Post B X VRel μ s Q (onL σ v f)) :
    ∃ i a xs ys k, v' = .ref a ∧ μ[i]? = some a ∧ σ[i]? = some (.list xs) ∧ xs.length ≤ 1048576 ∧ s.heap.get? a = some (listObj ys k) ∧ VsRel μ xs ys ∧ ys.length = xs.length ∧ Post B X VRel μ s Q (f i xs) := by
  cases v with
  | ref i =>
    obtain ⟨a, ea, rfl⟩ := hv
    cases q : σ[i]? with
    | none => simp only [onL, q] at p; exact p.elim
    | some o =>
      cases o with
      | list xs =>
        obtain ⟨l, ys, k, g, hys⟩ := r.at ea q
        simp only [onL, q] at p
        exact ⟨i, a, xs, ys, k, rfl, ea, q, l, g, hys, hys.length, p⟩
      | _ => simp only [onL, q] at p; exact p.elim
  | _ => exact p.elim
theorem arg1_elim {Q : Value → Shared → Prop} {vs : List Val} {ws : List Value} {f : Val → Res Val} (hvs : VsRel μ vs ws) (p : Post B X VRel μ s Q (arg1 vs f)) : ∃ x y, ws = [y] ∧ VRel μ x y ∧ Post B X VRel μ s Q (f x) := by
  cases vs with
  | nil => exact p.elim
  | cons x r =>
    cases r with
    | nil => obtain ⟨y, _, rfl, hy, rfl⟩ := hvs; exact ⟨x, y, rfl, hy, p⟩
    | cons => exact p.elim
section
variable {v : Val} {vs : List Val} {v' : Value} {ws : List Value} {Q : Value → Shared → Prop}
theorem app_sound (r : HRel B μ σ s.heap) (hv : VRel μ v v') (hvs : VsRel μ vs ws) (p : Post B X VRel μ s Q (meApp σ v vs)) : wpAny (model prog w) A (call (.builtin "list.append") (v' :: ws)) Q E s := by
  obtain ⟨i, a, xs, ys, k, rfl, ea, hq, l, g, hys, ll, p⟩ := onL_elim r hv p
  obtain ⟨x, y, rfl, hy, p⟩ := arg1_elim hvs p
  split at p
  · rename_i hl
    have lm : lim = 1048576 := rfl
    refine call_meets F.slot_list_append ⟨_, g, rfl⟩ F.entry_list_append (F.args_list_append_2 _ _) (list_append a ys.toArray k y (by simp [ll]; show _ ≤ 2 ^ 24; omega)) ⟨g, ?_⟩
    show Q _ { s with heap := s.heap.update a _, toks := s.toks }
    exact p.updList (xs' := xs ++ [x]) (ys' := ys ++ [y]) r ea hq g (by simp) (by simp; omega) (hys.append ⟨y, [], rfl, hy, rfl⟩) rfl
  · exact p.elim
theorem onS_elim {Q : Value → Shared → Prop} {v : Val} {y : Value} {f : List Nat → Res Val} (hv : VRel μ v y) (p : Post B X VRel μ s Q (onS v f)) : ∃ x t, y = .str ⟨x.toArray⟩ t ∧ x.length ≤ 1048576 ∧ Post B X VRel μ s Q (f x) := by
  cases v with
  | str k => obtain ⟨l, t, rfl⟩ := hv; exact ⟨k, t, rfl, l, p⟩
  | _ => exact p.elim
theorem onC_elim {Q : Value → Shared → Prop} {x : List Nat} {f : Nat → Res Val} (p : Post B X VRel μ s Q (onC x f)) : ∃ c, x = [c] ∧ Post B X VRel μ s Q (f c) := by
  cases x with
  | nil => exact p.elim
  | cons c r =>
    cases r with
    | nil => exact ⟨c, rfl, p⟩
    | cons => exact p.elim
theorem strsOf_rel : ∀ {xs : List Val} {ys : List Value} {ws : List (List Nat)}, VsRel μ xs ys → strsOf xs = some ws → ∃ l : List (Str × Tok), ys = strValues l ∧ l.map (·.1) = ws.map fun w => ⟨w.toArray⟩
  | [], _, _, h, e => by rw [show _ = [] from h]; cases e; exact ⟨[], rfl, rfl⟩
  | x :: xs, _, ws, ⟨y, ys, e, r, rs⟩, q => by
    subst e
    cases x with
    | str a =>
      have q : (strsOf xs).map (a :: ·) = some ws := q
      rw [Option.map_eq_some_iff] at q
      obtain ⟨vs, hv, rfl⟩ := q
      obtain ⟨_, t, rfl⟩ := r
      obtain ⟨l, rfl, h2⟩ := strsOf_rel rs hv
      exact ⟨(⟨a.toArray⟩, t) :: l, rfl, by rw [List.map_cons, List.map_cons, h2]⟩
    | _ => cases q
theorem join_sound (r : HRel B μ σ s.heap) (hv : VRel μ v v') (hvs : VsRel μ vs ws) (p : Post B X VRel μ s Q (meJoin σ v vs)) : wpAny (model prog w) A (call (.builtin "str.join") (v' :: ws)) Q E s := by
  obtain ⟨sep, t, rfl, ls, p⟩ := onS_elim hv p
  obtain ⟨u, y, rfl, hy, p⟩ := arg1_elim hvs p
  obtain ⟨i, a, xs, ys, k, rfl, ea, hq, l, g, hys, ll, p⟩ := onL_elim r hy p
  split at p
  · rename_i us hu
    split at p
    · rename_i hl
      obtain ⟨li, rfl, h2⟩ := strsOf_rel hys hu
      have hl : (joinBy sep us).length ≤ 1048576 := hl
      have ej : Builtin.Str.glued ⟨sep.toArray⟩ (li.map (·.1)) = ⟨(joinBy sep us).toArray⟩ := by rw [StrLaws.glued_eq_join, h2, join_txt]
      refine call_meets F.slot_str_join (typeIs_str _ _ _) F.entry_str_join (F.args_str_join_2 _ _) (meets_str_join_list ⟨sep.toArray⟩ t a li ?_) ⟨isList_of g, ?_⟩
      · rw [h2, List.foldl_toArray, join_sum]
        have := join_len sep us
        show decide (_ > sizeLine) = false
        refine decide_eq_false (Nat.not_lt.mpr (Nat.le_trans (?_ : _ ≤ 2097152) (by decide)))
        omega
      · have fin : (Made.str (Builtin.Str.glued ⟨sep.toArray⟩ (li.map (·.1)))).post (fun v s' => Q v s') s := by
          rw [ej]
          exact ⟨by rw [strLen]; exact Nat.le_trans hl (by decide), p.here r ⟨hl, _, rfl⟩⟩
        match li, h2, fin with
        | [], _, fin => exact fin
        | [q], h2, fin =>
          show Q (.str q.1 q.2) s
          cases us with
          | nil => cases h2
          | cons w ws' =>
            cases ws' with
            | cons => exact absurd (congrArg List.length h2) (by simp)
            | nil =>
              have e1 : q.1 = ⟨w.toArray⟩ := (List.cons.inj h2).1
              have e2 : joinBy sep [w] = w := List.append_nil w
              rw [e2] at p hl
              rw [e1]
              exact p.here' r ⟨hl, _, rfl⟩
        | _ :: _ :: _, _, fin => exact fin
    · exact p.elim
  · exact p.elim
theorem split_len : ∀ (c : Nat) (x : List Nat) (w : List Nat), w ∈ splitBy c x → w.length ≤ x.length
  | c, [], w, h => by rw [List.mem_singleton.mp h]; exact Nat.le_refl _
  | c, a :: x, w, h => by
    by_cases e : a = c
    · rw [show splitBy c (a :: x) = [] :: splitBy c x from if_pos e] at h
      rcases List.mem_cons.mp h with rfl | h
      · exact Nat.zero_le _
      · exact Nat.le_succ_of_le (split_len c x w h)
    · rw [show splitBy c (a :: x) = headAdd a (splitBy c x) from if_neg e] at h
      have ih := split_len c x
      cases q : splitBy c x with
      | nil => rw [q] at h; rw [List.mem_singleton.mp h]; exact Nat.succ_le_succ (Nat.zero_le _)
      | cons u us =>
        rw [q] at h
        rcases List.mem_cons.mp h with rfl | h
        · exact Nat.succ_le_succ (ih u (by rw [q]; exact .head _))
        · exact Nat.le_succ_of_le (ih w (by rw [q]; exact .tail _ h))
theorem strs_rel : ∀ (l : List (Str × Tok)), (∀ q ∈ l, q.1.length ≤ 1048576) → VsRel μ ((l.map (·.1.cps.toList)).map .str) (strValues l)
  | [], _ => rfl
  | q :: l, h => ⟨_, _, rfl, ⟨by rw [Array.length_toList]; exact h q (.head _), q.2, rfl⟩, strs_rel l fun x hx => h x (.tail _ hx)⟩
theorem split_sound (r : HRel B μ σ s.heap) (hv : VRel μ v v') (hvs : VsRel μ vs ws) (p : Post B X VRel μ s Q (meSplit σ v vs)) : wpAny (model prog w) A (call (.builtin "str.split") (v' :: ws)) Q E s := by
  obtain ⟨x, t, rfl, lx, p⟩ := onS_elim hv p
  obtain ⟨u, y, rfl, hy, p⟩ := arg1_elim hvs p
  obtain ⟨sp, t2, rfl, _, p⟩ := onS_elim hy p
  obtain ⟨c, rfl, p⟩ := onC_elim p
  have hx : (⟨x.toArray⟩ : Str).length ≤ 1048576 := by rw [strLen]; exact lx
  have fin : ∀ (l : List (Str × Tok)) (tk : Nat), l.map (·.1) = Txt.split ⟨x.toArray⟩ ⟨[c].toArray⟩ → Q (.ref s.heap.objs.size) { s with toks := tk, heap := s.heap.push { cls := .type "list", data := .seq (strValues l).toArray } } := fun l tk hl => by
    have e := split_txt c x
    have e2 : l.map (·.1.cps.toList) = splitBy c x := by rw [← e, ← hl, List.map_map]; rfl
    refine Post.newList (n := 0) r p (push_keep _ _) (Heap.get?_push_size _ rfl) ?_
    rw [← e2]
    refine strs_rel l fun q hq => ?_
    have := split_len c x q.1.cps.toList (by rw [← e2]; exact List.mem_map_of_mem hq)
    rw [Array.length_toList] at this
    exact Nat.le_trans this lx
  have hs : 1048576 ≤ sizeLine := by decide
  have hn : (PySem.Builtin.Str.partsBetween ⟨x.toArray⟩ (PySem.Builtin.Str.occurrences ⟨x.toArray⟩ ⟨[c].toArray⟩ 0 (⟨x.toArray⟩ : Str).length ((⟨x.toArray⟩ : Str).length + 1)) (⟨[c].toArray⟩ : Str).length).length ≤ (⟨x.toArray⟩ : Str).length + 2 := by
    rw [PyProof.Rows.len_partsBetween]
    have := StrLaws.occ_length_le ⟨x.toArray⟩ ⟨[c].toArray⟩ 0 (⟨x.toArray⟩ : Str).length ((⟨x.toArray⟩ : Str).length + 1)
    omega
  cases h1 : (decide ((⟨x.toArray⟩ : Str).length < (⟨[c].toArray⟩ : Str).length) || decide (Builtin.Str.strKind ⟨x.toArray⟩ < Builtin.Str.strKind ⟨[c].toArray⟩))
  · cases hf : (Builtin.Str.occurrences ⟨x.toArray⟩ ⟨[c].toArray⟩ 0 (⟨x.toArray⟩ : Str).length ((⟨x.toArray⟩ : Str).length + 1)).isEmpty
    · refine call_meets F.slot_str_split (typeIs_str _ _ _) F.entry_str_split (F.args_str_split_2 _ _) (meets_str_split_sep _ _ _ _ h1 rfl hf (Nat.le_trans hx hs) (Nat.le_trans hn (Nat.le_trans (Nat.add_le_add_right hx 2) (by decide)))) ?_
      show Q _ { s with toks := _, heap := s.heap.push { cls := .type "list", data := .seq (strsFrom s.toks _).toArray } }
      rw [strsFrom_eq]
      exact fin (numbered s.toks _) _ ((numbered_texts _ _).trans ((if_neg (ne_true_of_eq_false h1)).trans (if_neg (ne_true_of_eq_false hf))).symm)
    · exact call_meets F.slot_str_split (typeIs_str _ _ _) F.entry_str_split (F.args_str_split_2 _ _) (meets_str_split_not_found _ _ _ _ h1 rfl hf) (fin [(_, t)] s.toks ((if_neg (ne_true_of_eq_false h1)).trans (if_pos hf)).symm)
  · exact call_meets F.slot_str_split (typeIs_str _ _ _) F.entry_str_split (F.args_str_split_2 _ _) (meets_str_split_cannot_occur _ _ _ _ h1) (fin [(_, t)] s.toks (if_pos h1).symm)
theorem idxOf_first {c : Nat} : ∀ {x : List Nat} {i : Nat}, x[i]? = some c → (∀ k, k < i → x[k]? ≠ some c) → x.idxOf c = i
  | [], i, h, _ => by simp at h
  | a :: x, 0, h, _ => by simp at h; rw [h]; simp
  | a :: x, i + 1, h, hn => by
    have h0 : a ≠ c := fun e => hn 0 (Nat.succ_pos _) (by rw [e]; rfl)
    have ih := idxOf_first (x := x) (i := i) (by simpa using h) fun k hk => by have := hn (k + 1) (Nat.succ_lt_succ hk); simpa using this
    rw [List.idxOf_cons, beq_false_of_ne h0, cond_false, ih]
theorem sidx_sound (r : HRel B μ σ s.heap) (hv : VRel μ v v') (hvs : VsRel μ vs ws) (p : Post B X VRel μ s Q (meSidx σ v vs)) : wpAny (model prog w) A (call (.builtin "str.index") (v' :: ws)) Q E s := by
  obtain ⟨x, t, rfl, lx, p⟩ := onS_elim hv p
  obtain ⟨u, y, rfl, hy, p⟩ := arg1_elim hvs p
  obtain ⟨sp, t2, rfl, _, p⟩ := onS_elim hy p
  obtain ⟨c, rfl, p⟩ := onC_elim p
  have p : Post B X VRel μ s Q (if c ∈ x then .ok (.int (x.idxOf c : Nat)) σ else .stuck) := p
  split at p
  · rename_i hc
    rcases StrLaws.occ_head ⟨x.toArray⟩ ⟨#[c]⟩ 1 (Nat.le_refl 1) with ⟨_, h2⟩ | ⟨i, rr, h1, h2, h3⟩
    · obtain ⟨i, hi⟩ := List.getElem?_of_mem hc
      exact absurd ((StrLaws.subAt_one ⟨x.toArray⟩ c i).mpr (by simpa using hi)) (h2 i)
    · have e : x.idxOf c = i := idxOf_first (by simpa using (StrLaws.subAt_one ⟨x.toArray⟩ c i).mp h2) fun k hk q => h3 k hk ((StrLaws.subAt_one ⟨x.toArray⟩ c k).mpr (by simpa using q))
      refine call_meets F.slot_str_index (typeIs_str _ _ _) F.entry_str_index (F.args_str_index_2 _ _) (gives_str_index _ _ _ _ i rr h1).meets ?_
      rw [e] at p
      show Q (.int (i : Nat) s.toks) { s with toks := s.toks + 1 }
      exact p.here r ⟨_, rfl⟩
  · exact p.elim
theorem me_sound {m : Me} (ok : AOk n A) (r : HRel B μ σ s.heap) (hv : VRel μ v v') (hvs : VsRel μ vs ws) (p : Post B X VRel μ s Q (meV σ m v vs)) : wpAny (model prog w) A (call (.builtin (meFn m)) (v' :: ws)) Q E s := by
  cases m with
  | append => exact app_sound r hv hvs p
  | join => exact join_sound r hv hvs p
  | split => exact split_sound r hv hvs p
  | sidx => exact sidx_sound r hv hvs p
end

end
end Mine


-- part MiniIter
set_option maxRecDepth 4000
set_option linter.unusedVariables false
namespace Mine
open PySem PySem.SeqAt

section
variable {B : Heap} {X : XE} {μ : List Addr} {σ : MH} {s : Shared}
variable {prog : Program} {w : World} {A : Around} {E : Value → Shared → Prop} {n : Nat}

noncomputable def cutOf : Val → Option (Option Int)
  | .none => some none
  | .int i => some (some i)
  | _ => none
theorem cutAt_elim {v : Val} {d m a : Nat} (h : cutAt v d m = some a) : ∃ o : Option Int, cutOf v = some o ∧ a = o.elim d (clipAt m) := by
  unfold cutAt at h
  split at h
  · cases h; exact ⟨none, rfl, rfl⟩
  · refine ⟨some _, rfl, ?_⟩
    unfold clipAt
    split at h <;> cases h <;> simp only [Option.elim] <;> split <;> omega
  · cases h
theorem part_of {v : Val} {v' : Value} {o : Option Int} (hv : VRel μ v v') (h : cutOf v = some o) : IsPart v' o := by
  unfold cutOf at h
  split at h
  · cases h; rw [show v' = _ from hv]; exact .none
  · cases h; obtain ⟨t, rfl⟩ := hv; exact .int _ _
  · cases h

theorem slice_list_sound {i : Nat} {xs : List Val} {v' lo' hi' : Value} {lo hi : Val} {a b : Nat} {value slice : Expr} {Q : Value → Shared → Prop} (r : HRel B μ σ s.heap) (hq : σ[i]? = some (.list xs)) (hv : VRel μ (.ref i) v') (hlo : VRel μ lo lo') (hhi : VRel μ hi hi')
    (ha : cutAt lo 0 xs.length = some a) (hb : cutAt hi xs.length xs.length = some b) (p : Post B X VRel μ s Q (newList ((xs.take b).drop a) σ))
    (hs : ∀ i, subscripted slice false v' i = operate [i, v'] (getItem v' i)) :
    wpAny (model prog w) A (PyProof.Rows.subscriptTail value slice v' (.ref s.heap.objs.size)) Q E { s with heap := s.heap.push { cls := .type "slice", data := .fields #[lo', hi', .none] } } := by
  obtain ⟨ad, ea, rfl⟩ := hv
  obtain ⟨l, ys, m, g, hys⟩ := r.at ea hq
  have l' : xs.length ≤ 1048576 := l
  have ll := hys.length
  obtain ⟨o1, c1, d1⟩ := cutAt_elim ha
  obtain ⟨o2, c2, d2⟩ := cutAt_elim hb
  have g' := Heap.get?_push_of_some (o := { cls := .type "slice", data := .fields #[lo', hi', .none] }) g
  have hl := isList_of g'
  refine PyProof.Rows.tail_any hl.typeIs slot_list_getitem.lookup (wpAny_getItem_list_slice (lo := o1) (hi := o2) (st := none) hl ⟨_, Heap.get?_push_size _ rfl, rfl, rfl⟩ (part_of hlo c1) (part_of hhi c2) .none (by simp) ?_ (by simp [ll]; show _ ≤ 2 ^ 24; omega)) (hs _)
  rw [slicePick_plain]
  have e : ((ys.toArray.toList.drop (o1.elim 0 (clipAt ys.toArray.size))).take (o2.elim ys.toArray.size (clipAt ys.toArray.size) - o1.elim 0 (clipAt ys.toArray.size))).toArray = ((ys.take b).drop a).toArray := by
    simp only [List.size_toArray, ll]
    rw [← d1, ← d2, List.drop_take]
  rw [e]
  exact Post.newList (s := { s with heap := s.heap.push { cls := .type "slice", data := .fields #[lo', hi', .none] }, toks := s.toks }) (n := 0) (r.grow (push_keep _ _)) (p.step (Step.grow (push_keep _ _))) (push_keep _ _) (Heap.get?_push_size _ rfl) ((hys.take _).drop _)

theorem pick_str (x : List Nat) : ∀ (n a : Nat), a + n ≤ x.length → ((List.range n).map fun i => a + i).filterMap (fun i => x[i]?) = (x.drop a).take n
  | 0, a, _ => by simp
  | n + 1, a, h => by
    rw [List.range_succ, List.map_append, List.filterMap_append, pick_str x n a (by omega)]
    have e : x[a + n]? = some x[a + n] := List.getElem?_eq_getElem (by omega)
    rw [List.map_cons, List.map_nil, List.filterMap_cons_some e, List.filterMap_nil, List.take_add_one, List.getElem?_drop, e]; rfl
theorem part_of2 {v : Val} {v' : Value} {o : Option Int} (hv : VRel μ v v') (h : cutOf v = some o) : ∃ l : Option (Int × Tok), v' = partValue l ∧ l.map (·.1) = o := by
  cases v with
  | none => cases h; rw [show v' = _ from hv]; exact ⟨none, rfl, rfl⟩
  | int i => cases h; obtain ⟨t, rfl⟩ := hv; exact ⟨some (i, t), rfl, rfl⟩
  | _ => cases h
theorem idx_plain (lo hi : Option Int) (n : Nat) : Builtin.Str.strSliceIndices lo hi 1 n = (List.range (hi.elim n (clipAt n) - lo.elim 0 (clipAt n))).map fun i => lo.elim 0 (clipAt n) + i := by
  rw [← sliceRange_one]
  unfold Builtin.Str.strSliceIndices
  cases lo <;> cases hi <;> simp only [Option.elim, show (1 : Int) > 0 by decide, if_true, clipAt_cast] <;> rfl
theorem slice_str_sound {x : List Nat} {v' lo' hi' : Value} {lo hi : Val} {a b : Nat} {value slice : Expr} {Q : Value → Shared → Prop} (r : HRel B μ σ s.heap) (hv : VRel μ (.str x) v') (hlo : VRel μ lo lo') (hhi : VRel μ hi hi')
    (ha : cutAt lo 0 x.length = some a) (hb : cutAt hi x.length x.length = some b) (p : Post B X VRel μ s Q (.ok (.str ((x.take b).drop a)) σ))
    (hs : ∀ i, subscripted slice false v' i = operate [i, v'] (getItem v' i)) :
    wpAny (model prog w) A (PyProof.Rows.subscriptTail value slice v' (.ref s.heap.objs.size)) Q E { s with heap := s.heap.push { cls := .type "slice", data := .fields #[lo', hi', .none] } } := by
  obtain ⟨l, t, rfl⟩ := hv
  have l' : x.length ≤ 1048576 := l
  obtain ⟨o1, c1, d1⟩ := cutAt_elim ha
  obtain ⟨o2, c2, d2⟩ := cutAt_elim hb
  obtain ⟨l1, rfl, m1⟩ := part_of2 hlo c1
  obtain ⟨l2, rfl, m2⟩ := part_of2 hhi c2
  have hb' : b ≤ x.length := by rw [d2]; cases o2 with | none => exact Nat.le_refl _ | some i => have := clipAt_cast x.length i; show clipAt x.length i ≤ _; omega
  have e : slicePicked ⟨x.toArray⟩ l1 l2 none = (List.range (b - a)).map fun i => a + i := by
    unfold slicePicked
    rw [m1, m2, strLen]
    show Builtin.Str.strSliceIndices o1 o2 1 x.length = _
    rw [idx_plain, ← d1, ← d2]
  have e2 : (slicePicked ⟨x.toArray⟩ l1 l2 none).filterMap ((⟨x.toArray⟩ : Str).cps[·]?) = (x.take b).drop a := by
    rw [e, List.drop_take]
    by_cases hab : a ≤ b
    · rw [← pick_str x (b - a) a (by omega)]; congr 1; funext i; simp
    · rw [show b - a = 0 by omega]; simp
  have kk := push_keep s.heap { cls := .type "slice", data := .fields #[partValue l1, partValue l2, .none] }
  have r2 := r.grow kk
  have p2 := p.step (tk := s.toks) (Step.grow kk)
  refine PyProof.Rows.tail_any (T := "str") (typeIs_str _ _ _) F.slot_str_getitem.lookup (wpAny_getItem_str_slice (l := l1) (u := l2) (st := none) ⟨_, Heap.get?_push_size _ rfl, rfl, rfl⟩ rfl ?_) (hs _)
  unfold sliceMade
  rw [e2]
  split
  · rename_i hc
    rw [Bool.and_eq_true, beq_iff_eq, beq_iff_eq, e, strLen] at hc
    have h2 := hc.2
    rw [List.length_map, List.length_range] at h2
    have e3 : (x.take b).drop a = x := by
      rw [List.drop_take]
      by_cases hx0 : x.length = 0
      · rw [List.length_eq_zero_iff.mp hx0]; simp
      · rw [show a = 0 by omega, List.drop_zero, List.take_of_length_le (by omega)]
    rw [e3] at p2
    show Q (.str ⟨x.toArray⟩ t) _
    exact p2.here' r2 ⟨l, _, rfl⟩
  · have hl : ((x.take b).drop a).length ≤ 1048576 := by rw [List.length_drop, List.length_take]; omega
    exact ⟨by rw [strLen]; exact Nat.le_trans hl (by decide), p2.here r2 ⟨hl, _, rfl⟩⟩

theorem look_fields {h h' : Heap} {I : Addr} {o : Obj} {vs : Array Value} (k : ∀ o, look h I = some o → look h' I = some o) (e : h.get? I = some o) (d : o.data = .fields vs) : h'.get? I = some o := by
  have nd : ∀ es ep, o.data ≠ .dict es ep := fun es ep q => by rw [d] at q; cases q
  refine get_of_look ?_ nd
  have := k _ (look_of e)
  rwa [nrm_of nd] at this
structure Iter (prog : Program) (w : World) (B : Heap) (μ₀ : List Addr) (xs : List Val) (ck : MH → Bool) (I : Addr) (At : Nat → Heap → Prop) : Prop where
  frame : ∀ i h h', At i h → (∀ o, look h I = some o → look h' I = some o) → At i h'
  alive : ∀ i h, At i h → ∃ o, h.get? I = some o
  again : ∀ i (A : Around) (s : Shared) (Q : Value → Shared → Prop) (E : Value → Shared → Prop), At i s.heap → Q (.ref I) s → wpAny (model prog w) A (pyIter (.ref I)) Q E s
  item : ∀ i x (A : Around) (s : Shared) μ σ (Q : Option Value → Shared → Prop) (E : Value → Shared → Prop), xs[i]? = some x → A.handled = none → μ₀ <+: μ → At i s.heap → HRel B μ σ s.heap → ck σ = true →
    (∀ v h' tk, VRel μ x v → At (i + 1) h' → (∀ b o, b ≠ I → s.heap.get? b = some o → h'.get? b = some o) → Q (some v) { s with heap := h', toks := tk }) → wpAny (model prog w) A (pyNext (.ref I)) Q E s
  done : ∀ (A : Around) (s : Shared) μ σ (Q : Option Value → Shared → Prop) (E : Value → Shared → Prop), A.handled = none → μ₀ <+: μ → At xs.length s.heap → HRel B μ σ s.heap → ck σ = true →
    (∀ h' tk, (∀ b o, b ≠ I → s.heap.get? b = some o → h'.get? b = some o) → Q none { s with heap := h', toks := tk }) → wpAny (model prog w) A (pyNext (.ref I)) Q E s

theorem sameBut_keep {a : Addr} {h h' : Heap} (x : Heap.SameBut a h h') : ∀ b o, b ≠ a → h.get? b = some o → h'.get? b = some o := fun b _ nb e => (x.2 b nb).trans e

theorem iter_list {i : Nat} {a I : Addr} {xs : List Val} {ck : MH → Bool} (ea : μ[i]? = some a) (hck : ∀ σ', ck σ' = true → seqOf σ' i = some (true, xs)) : Iter prog w B μ xs ck I (fun i h => h.IsListIter I a i) where
  frame := fun i h h' x k => let ⟨o, e, c, d⟩ := x; ⟨o, look_fields k e d, c, d⟩
  alive := fun i h x => let ⟨o, e, _⟩ := x; ⟨o, e⟩
  again := fun i A s Q E x q => wpAny_pyIter_listiter x q
  item := fun i x A s μ σ Q E hx hh hp hat r hc hQ => by
    obtain ⟨l, ys, m, hy, g⟩ := r.seq (getElem?_prefix hp ea) (hck σ hc)
    obtain ⟨y, e1, e2⟩ := hy.get hx
    exact wpAny_pyNext_list_item hat (isList_of g) (by simpa using e1) fun h' x1 x2 => hQ y h' s.toks e2 x1 (sameBut_keep x2)
  done := fun A s μ σ Q E hh hp hat r hc hQ => by
    obtain ⟨l, ys, m, hy, g⟩ := r.seq (getElem?_prefix hp ea) (hck σ hc)
    exact wpAny_pyNext_list_end hh hat (isList_of g) (by simp [hy.length]) fun h' x1 => hQ h' s.toks x1

theorem iter_str {x : List Nat} {t : Tok} {I : Addr} : Iter prog w B μ (x.map fun c => .str [c]) (fun _ => true) I (fun i h => h.IsStrIter I "str_ascii_iterator" ⟨x.toArray⟩ t i) where
  frame := fun i h h' y k => let ⟨o, e, c, d⟩ := y; ⟨o, look_fields k e d, c, d⟩
  alive := fun i h y => let ⟨o, e, _⟩ := y; ⟨o, e⟩
  again := fun i A s Q E y q => wpAny_pyIter_striter_ascii y q
  item := fun i y A s μ σ Q E hx hh hp hat r hc hQ => by
    rw [List.getElem?_map, Option.map_eq_some_iff] at hx
    obtain ⟨c, hx, rfl⟩ := hx
    exact wpAny_pyNext_ascii_item hat (by simpa using hx) fun h' x1 x2 => hQ _ h' _ ⟨Nat.le_of_ble_eq_true rfl, _, rfl⟩ x1 (sameBut_keep x2)
  done := fun A s μ σ Q E hh hp hat r hc hQ => by
    rw [List.length_map] at hat
    exact wpAny_pyNext_ascii_end hh hat (by simp) fun h' x1 => hQ h' s.toks x1

theorem rangeVals_get (a : Int) : ∀ (n i : Nat) (x : Val), (rangeVals a n)[i]? = some x → i < n ∧ x = .int (a + i)
  | 0, i, x, h => by simp [rangeVals] at h
  | n + 1, 0, x, h => by simp [rangeVals] at h; exact ⟨Nat.succ_pos _, by simp [← h]⟩
  | n + 1, i + 1, x, h => by
    simp only [rangeVals, List.getElem?_cons_succ] at h
    obtain ⟨h1, h2⟩ := rangeVals_get (a + 1) n i x h
    exact ⟨by omega, by rw [h2]; congr 1; omega⟩
theorem rangeVals_length (a : Int) : ∀ n, (rangeVals a n).length = n
  | 0 => rfl
  | n + 1 => by simp [rangeVals, rangeVals_length (a + 1) n]

theorem iter_range {a : Int} {n : Nat} {I : Addr} : Iter prog w B μ (rangeVals a n) (fun _ => true) I (fun i h => IsRangeIter h I (a + (i : Nat)) ((n : Int) - (i : Nat)) 1) where
  frame := fun i h h' x k => look_fields k x rfl
  alive := fun i h x => ⟨_, x⟩
  again := fun i A s Q E x q => wpAny_pyIter_rangeiter x q
  item := fun i x A s μ σ Q E hx hh hp hat r hc hQ => by
    obtain ⟨h1, rfl⟩ := rangeVals_get a n i x hx
    refine wpAny_pyNext_range_item hat (by omega) fun h' x1 x2 => hQ _ h' _ ⟨_, rfl⟩ ?_ (sameBut_keep x2)
    have e1 : a + ((i + 1 : Nat) : Int) = a + i + 1 := by omega
    have e2 : (n : Int) - ((i + 1 : Nat) : Int) = n - i - 1 := by omega
    rw [e1, e2]; exact x1
  done := fun A s μ σ Q E hh hp hat r hc hQ => by
    rw [rangeVals_length] at hat
    exact wpAny_pyNext_range_end hh hat (by omega) fun h' x1 => hQ h' s.toks x1

end
end Mine


-- part MiniChk
set_option maxRecDepth 4000
set_option linter.unusedVariables false
namespace Mine
open PySem

inductive GI where
  | fn (f : Nat) | const (v : Val) | ty (t : String) | bi (b : String) | cls (c : Nat)
  deriving DecidableEq
noncomputable abbrev GMap := List (Str × GI)

noncomputable def nameOk (x : Str) : Bool := (x == ("__debug__" : Str)) == false && (x == ("__classdict__" : Str)) == false
noncomputable def globK (g : GMap) (sc : Scope) (x : Str) (i : GI) : Bool := sc.names.lookup x == some .globalImplicit && nameOk x && g.lookup x == some i
noncomputable def varK (sc : Scope) (sm : List (Str × Nat)) (x : Str) (i : Nat) : Bool := isVar (sc.names.lookup x) && nameOk x && sm.lookup x == some i

noncomputable def constIs : Val → Const → Bool
  | .none, .none => true
  | .bool b, .bool c => b == c
  | .int i, .int j => i == j
  | .str s, .str x => decide (x = ⟨s.toArray⟩) && decide (s.length ≤ lim)
  | _, _ => false

noncomputable def isStar : Expr → Bool
  | .Starred .. => true
  | _ => false
noncomputable def isSlice : Expr → Bool
  | .Slice .. => true
  | _ => false
noncomputable def baseOk : Expr → Bool
  | .Call (.Name _ _) [] [] _ => false
  | _ => true

noncomputable def relabelS (inner outer : Scope) : Scope := { inner with names := inner.names.map fun (n, k) => if (k == .free && outer.kind == .function && outer.names.lookup n == some .cell) then (n, .cell) else (n, k) }

noncomputable def compScOk (inner outer : Scope) (x : Str) : Bool :=
  inner.kind == .function && inner.names.lookup x == some .local &&
  inner.names.all fun p => p.2 != .cell && (p.2 != .local || inner.names.lookup p.1 == some .local) && (p.2 != .free || (outer.names.lookup p.1 == some .cell || outer.names.lookup p.1 == some .free))

noncomputable def biGI : BI → GI
  | .len => .bi "len" | .sum => .bi "sum" | .min => .bi "min" | .max => .bi "max" | .all => .bi "all"
  | .int => .ty "int" | .str => .ty "str" | .list => .ty "list"
noncomputable def meName : Me → Str
  | .append => "append"
  | .join => "join"
  | .split => "split"
  | .sidx => "index"

noncomputable def isTT : MExpr → Bool
  | .const (.bool true) => true
  | _ => false
noncomputable def isNC : MExpr → Bool
  | .const .none => true
  | _ => false
theorem isTT_eq {m : MExpr} (h : isTT m = true) : m = .const (.bool true) := by
  unfold isTT at h; split at h
  · rfl
  · cases h
theorem isNC_eq {m : MExpr} (h : isNC m = true) : m = .const .none := by
  unfold isNC at h; split at h
  · rfl
  · cases h

structure Chk where
  E : Expr → Bool
  Es : List Expr → Bool
  I : Expr → Bool
noncomputable def ckE (f : Expr → Bool) : Chk := ⟨f, fun _ => false, fun _ => false⟩
noncomputable def ckS (f : List Expr → Bool) : Chk := ⟨fun _ => false, f, fun _ => false⟩
noncomputable def ckI (f : Expr → Bool) : Chk := ⟨fun _ => false, fun _ => false, f⟩

/-- an expression as the checker sees it -/
inductive EV where
  | const (c : Const) | name (x : Str) | bin (l : Expr) (o : Operator) (r : Expr) | un (o : UnaryOp) (x : Expr) | bool (o : BoolOp) (es : List Expr) (p : Pos)
  | cmp (l : Expr) (os : List CmpOp) (rs : List Expr) | call (f : Expr) (es : List Expr) (p : Pos) | attr (o : Expr) (n : Str) (p : Pos) | sub (l r : Expr)
  | slice (x y z : Option Expr) | comp (e : Expr) (gs : List Comprehension) (sc : Scope) | list (l : List Expr) | tup (l : List Expr) | other
noncomputable def eview : Expr → EV
  | .Constant c _ _ => .const c
  | .Name x _ => .name x
  | .BinOp l o r _ => .bin l o r
  | .UnaryOp o x _ => .un o x
  | .BoolOp o es p => .bool o es p
  | .Compare l os rs _ => .cmp l os rs
  | .Call f es [] p => .call f es p
  | .Attribute o n p => .attr o n p
  | .Subscript l r _ => .sub l r
  | .Slice x y z _ => .slice x y z
  | .ListComp e gs sc _ => .comp e gs sc
  | .List l _ => .list l
  | .Tuple l _ _ => .tup l
  | _ => .other
inductive EVOk : Expr → EV → Prop
  | const (c n p) : EVOk (.Constant c n p) (.const c)
  | name (x p) : EVOk (.Name x p) (.name x)
  | bin (l o r p) : EVOk (.BinOp l o r p) (.bin l o r)
  | un (o x p) : EVOk (.UnaryOp o x p) (.un o x)
  | bool (o es p) : EVOk (.BoolOp o es p) (.bool o es p)
  | cmp (l os rs p) : EVOk (.Compare l os rs p) (.cmp l os rs)
  | call (f es p) : EVOk (.Call f es [] p) (.call f es p)
  | attr (o n p) : EVOk (.Attribute o n p) (.attr o n p)
  | sub (l r p) : EVOk (.Subscript l r p) (.sub l r)
  | slice (x y z p) : EVOk (.Slice x y z p) (.slice x y z)
  | comp (e gs sc p) : EVOk (.ListComp e gs sc p) (.comp e gs sc)
  | list (l p) : EVOk (.List l p) (.list l)
  | tup (l c p) : EVOk (.Tuple l c p) (.tup l)
  | other (e) : EVOk e .other
theorem eview_ok (e : Expr) : EVOk e (eview e) := by
  cases e with
  | Call f es kw p =>
    cases kw with
    | nil => exact .call f es p
    | cons => exact .other _
  | _ => first | exact .other _ | constructor
noncomputable def onConst (k : Const → Bool) (e : Expr) : Bool := match eview e with | .const c => k c | _ => false
theorem onConst_elim {k : Const → Bool} {e : Expr} (h : onConst k e = true) : ∃ c n p, e = .Constant c n p ∧ k c = true := by
  have o := eview_ok e
  unfold onConst at h
  generalize eview e = x at o h
  cases o <;> first | exact (Bool.false_ne_true h).elim | exact ⟨_, _, _, rfl, h⟩
noncomputable def onName (k : Str → Bool) (e : Expr) : Bool := match eview e with | .name x => k x | _ => false
theorem onName_elim {k : Str → Bool} {e : Expr} (h : onName k e = true) : ∃ x p, e = .Name x p ∧ k x = true := by
  have o := eview_ok e
  unfold onName at h
  generalize eview e = x at o h
  cases o <;> first | exact (Bool.false_ne_true h).elim | exact ⟨_, _, rfl, h⟩
noncomputable def onBin (k : Expr → Operator → Expr → Bool) (e : Expr) : Bool := match eview e with | .bin l o r => k l o r | _ => false
theorem onBin_elim {k : Expr → Operator → Expr → Bool} {e : Expr} (h : onBin k e = true) : ∃ l o r p, e = .BinOp l o r p ∧ k l o r = true := by
  have o := eview_ok e
  unfold onBin at h
  generalize eview e = x at o h
  cases o <;> first | exact (Bool.false_ne_true h).elim | exact ⟨_, _, _, _, rfl, h⟩
noncomputable def onUn (k : UnaryOp → Expr → Bool) (e : Expr) : Bool := match eview e with | .un o x => k o x | _ => false
theorem onUn_elim {k : UnaryOp → Expr → Bool} {e : Expr} (h : onUn k e = true) : ∃ o x p, e = .UnaryOp o x p ∧ k o x = true := by
  have o := eview_ok e
  unfold onUn at h
  generalize eview e = x at o h
  cases o <;> first | exact (Bool.false_ne_true h).elim | exact ⟨_, _, _, rfl, h⟩
noncomputable def onBool (k : BoolOp → List Expr → Pos → Bool) (e : Expr) : Bool := match eview e with | .bool o es p => k o es p | _ => false
theorem onBool_elim {k : BoolOp → List Expr → Pos → Bool} {e : Expr} (h : onBool k e = true) : ∃ o es p, e = .BoolOp o es p ∧ k o es p = true := by
  have o := eview_ok e
  unfold onBool at h
  generalize eview e = x at o h
  cases o <;> first | exact (Bool.false_ne_true h).elim | exact ⟨_, _, _, rfl, h⟩
noncomputable def onCmp (k : Expr → List CmpOp → List Expr → Bool) (e : Expr) : Bool := match eview e with | .cmp l os rs => k l os rs | _ => false
theorem onCmp_elim {k : Expr → List CmpOp → List Expr → Bool} {e : Expr} (h : onCmp k e = true) : ∃ l os rs p, e = .Compare l os rs p ∧ k l os rs = true := by
  have o := eview_ok e
  unfold onCmp at h
  generalize eview e = x at o h
  cases o <;> first | exact (Bool.false_ne_true h).elim | exact ⟨_, _, _, _, rfl, h⟩
noncomputable def onCallX (k : Expr → List Expr → Pos → Bool) (e : Expr) : Bool := match eview e with | .call f es p => k f es p | _ => false
theorem onCallX_elim {k : Expr → List Expr → Pos → Bool} {e : Expr} (h : onCallX k e = true) : ∃ f es p, e = .Call f es [] p ∧ k f es p = true := by
  have o := eview_ok e
  unfold onCallX at h
  generalize eview e = x at o h
  cases o <;> first | exact (Bool.false_ne_true h).elim | exact ⟨_, _, _, rfl, h⟩
noncomputable def onCall (k : Str → List Expr → Bool) : Expr → Bool := onCallX fun f es _ => onName (fun x => k x es) f
theorem onCall_elim {k : Str → List Expr → Bool} {e : Expr} (h : onCall k e = true) : ∃ x p es q, e = .Call (.Name x p) es [] q ∧ k x es = true := by
  obtain ⟨f, es, q, rfl, h2⟩ := onCallX_elim h
  obtain ⟨x, p, rfl, h3⟩ := onName_elim h2
  exact ⟨x, p, es, q, rfl, h3⟩
noncomputable def onAttr (k : Expr → Str → Pos → Bool) (e : Expr) : Bool := match eview e with | .attr o n p => k o n p | _ => false
theorem onAttr_elim {k : Expr → Str → Pos → Bool} {e : Expr} (h : onAttr k e = true) : ∃ o n p, e = .Attribute o n p ∧ k o n p = true := by
  have o := eview_ok e
  unfold onAttr at h
  generalize eview e = x at o h
  cases o <;> first | exact (Bool.false_ne_true h).elim | exact ⟨_, _, _, rfl, h⟩
noncomputable def onSub (k : Expr → Expr → Bool) (e : Expr) : Bool := match eview e with | .sub l r => k l r | _ => false
theorem onSub_elim {k : Expr → Expr → Bool} {e : Expr} (h : onSub k e = true) : ∃ l r p, e = .Subscript l r p ∧ k l r = true := by
  have o := eview_ok e
  unfold onSub at h
  generalize eview e = x at o h
  cases o <;> first | exact (Bool.false_ne_true h).elim | exact ⟨_, _, _, rfl, h⟩
noncomputable def onSlice (k : Option Expr → Option Expr → Option Expr → Bool) (e : Expr) : Bool := match eview e with | .slice x y z => k x y z | _ => false
theorem onSlice_elim {k : Option Expr → Option Expr → Option Expr → Bool} {e : Expr} (h : onSlice k e = true) : ∃ x y z p, e = .Slice x y z p ∧ k x y z = true := by
  have o := eview_ok e
  unfold onSlice at h
  generalize eview e = x at o h
  cases o <;> first | exact (Bool.false_ne_true h).elim | exact ⟨_, _, _, _, rfl, h⟩
noncomputable def onComp (k : Expr → List Comprehension → Scope → Bool) (e : Expr) : Bool := match eview e with | .comp e1 gs sc => k e1 gs sc | _ => false
theorem onComp_elim {k : Expr → List Comprehension → Scope → Bool} {e : Expr} (h : onComp k e = true) : ∃ e1 gs sc p, e = .ListComp e1 gs sc p ∧ k e1 gs sc = true := by
  have o := eview_ok e
  unfold onComp at h
  generalize eview e = x at o h
  cases o <;> first | exact (Bool.false_ne_true h).elim | exact ⟨_, _, _, _, rfl, h⟩
noncomputable def onList (k : List Expr → Bool) (e : Expr) : Bool := match eview e with | .list l => k l | _ => false
theorem onList_elim {k : List Expr → Bool} {e : Expr} (h : onList k e = true) : ∃ l p, e = .List l p ∧ k l = true := by
  have o := eview_ok e
  unfold onList at h
  generalize eview e = x at o h
  cases o <;> first | exact (Bool.false_ne_true h).elim | exact ⟨_, _, rfl, h⟩
noncomputable def onTup (k : List Expr → Bool) (e : Expr) : Bool := match eview e with | .tup l => k l | _ => false
theorem onTup_elim {k : List Expr → Bool} {e : Expr} (h : onTup k e = true) : ∃ l c p, e = .Tuple l c p ∧ k l = true := by
  have o := eview_ok e
  unfold onTup at h
  generalize eview e = x at o h
  cases o <;> first | exact (Bool.false_ne_true h).elim | exact ⟨_, _, _, rfl, h⟩
noncomputable def one {α : Type} (k : α → Bool) : List α → Bool
  | [x] => k x
  | _ => false
theorem one_elim {α : Type} {k : α → Bool} {l : List α} (h : one k l = true) : ∃ x, l = [x] ∧ k x = true := by
  match l, h with
  | [x], h => exact ⟨x, rfl, h⟩
noncomputable def two {α : Type} (k : α → α → Bool) : List α → Bool
  | [x, y] => k x y
  | _ => false
theorem two_elim {α : Type} {k : α → α → Bool} {l : List α} (h : two k l = true) : ∃ x y, l = [x, y] ∧ k x y = true := by
  match l, h with
  | [x, y], h => exact ⟨x, y, rfl, h⟩
noncomputable def cons2 {α : Type} (k : α → α → List α → Bool) : List α → Bool
  | x :: y :: r => k x y r
  | _ => false
theorem cons2_elim {α : Type} {k : α → α → List α → Bool} {l : List α} (h : cons2 k l = true) : ∃ x y r, l = x :: y :: r ∧ k x y r = true := by
  match l, h with
  | x :: y :: r, h => exact ⟨x, y, r, rfl, h⟩
noncomputable def isAnd : BoolOp → Bool
  | .And => true
  | .Or => false
theorem isAnd_elim {o : BoolOp} (h : isAnd o = true) : o = .And := by cases o; rfl; cases h
theorem isOr_elim {o : BoolOp} (h : (!isAnd o) = true) : o = .Or := by cases o; cases h; rfl
noncomputable def isOne : Const → Bool
  | .int i => decide (i = 1)
  | _ => false
noncomputable def isRev : Option Expr → Bool
  | some e => onUn (fun op x => decide (op = .USub) && onConst isOne x) e
  | none => false
noncomputable def chk (g : GMap) : MExpr → Scope → List (Str × Nat) → Chk
  | .const v, _, _ => ckE (onConst fun c => constIs v c)
  | .gconst v, sc, _ => ckE (onName fun x => globK g sc x (.const v))
  | .loc i, sc, sm => ckE (onName fun x => varK sc sm x i)
  | .bin op a b, sc, sm => ckE (onBin fun l o r => decide (op = o) && (chk g a sc sm).E l && (chk g b sc sm).E r)
  | .un op a, sc, sm => ckE (onUn fun o x => decide (op = o) && (chk g a sc sm).E x)
  | .and a b, sc, sm => ckE (onBool fun o es p => isAnd o && cons2 (fun x y r => (chk g a sc sm).E x && (chk g b sc sm).E (match r with | [] => y | _ => .BoolOp .And (y :: r) p)) es)
  | .or a b, sc, sm => ckE (onBool fun o es p => !isAnd o && cons2 (fun x y r => (chk g a sc sm).E x && (chk g b sc sm).E (match r with | [] => y | _ => .BoolOp .Or (y :: r) p)) es)
  | .cmp op a b, sc, sm => ckE (onCmp fun l os rs => one (fun o => one (fun r => decide (op = o) && (chk g a sc sm).E l && (chk g b sc sm).E r && !behindInMarks o r) rs) os)
  | .cmp2 op₁ op₂ a b c, sc, sm => ckE (onCmp fun l os rs => two (fun o₁ o₂ => two (fun r₁ r₂ => decide (op₁ = o₁) && decide (op₂ = o₂) && (chk g a sc sm).E l && (chk g b sc sm).E r₁ && (chk g c sc sm).E r₂ && !lastMarks [o₁, o₂] [r₁, r₂]) rs) os)
  | .isinst t a, sc, sm => ckE (onCall fun x es => two (fun y zz => onName (fun z => globK g sc x (.bi "isinstance") && globK g sc z (.ty (tyName t)) && (chk g a sc sm).E y && !isStar y) zz) es)
  | .call f args, sc, sm => ckE (onCall fun x es => globK g sc x (.fn f) && (chk g args sc sm).Es es)
  | .bi b args, sc, sm => ckE (onCall fun x es => globK g sc x (biGI b) && (chk g args sc sm).Es es)
  | .lrange _, _, _ => ckE fun _ => false
  | .meth m o args, sc, sm => ckE (onCallX fun f es pos => onAttr (fun eo nm apos => decide (nm = meName m) && (chk g o sc sm).E eo && (chk g args sc sm).Es es && apos.endLine == pos.line && baseOk eo && decide (es.length < 20)) f)
  | .lst a, sc, sm => ckE (onList fun l => (chk g a sc sm).Es l)
  | .tup a, sc, sm => ckE (onTup fun l => (chk g a sc sm).Es l)
  | .sub a b, sc, sm => ckE (onSub fun l r => (chk g a sc sm).E l && (chk g b sc sm).E r && !isSlice r)
  | .slice a lo hi, sc, sm => ckE (onSub fun l r => onSlice (fun x y z => z.isNone && ((chk g a sc sm).E l && (chk g lo sc sm).Es x.toList && (chk g hi sc sm).Es y.toList)) r)
  | .srev _, _, _ => ckE fun _ => false
  | .comp elt tgt it cond, sc, sm => ckE (onComp fun e1 gs sc' => match tgt with
      | .loc i => one (fun gn => onName (fun x => gn.is_async == 0 && compScOk sc' sc x && (sc'.names.all fun p => p.2 != .local || p.1 == x || (sm.lookup p.1).isNone) && nameOk x && sm.all (fun p => p.2 != i) && (chk g it sc sm).I gn.iter &&
          (chk g elt (relabelS sc' sc) ((x, i) :: sm)).E e1 &&
          (match gn.ifs with | [] => isTT cond | [c] => (chk g cond (relabelS sc' sc) ((x, i) :: sm)).E c | _ => false)) gn.target) gs
      | _ => false)
  | .attr _ _, _, _ => ckE fun _ => false
  | .nil, _, _ => ckS fun es => es.isEmpty
  | .cons a b, sc, sm => ckS fun es => match es with | e :: r => (chk g a sc sm).E e && !isStar e && (chk g b sc sm).Es r | [] => false
  | .irange a, sc, sm => ckI (onCall fun x es => one (fun y => globK g sc x (.ty "range") && (chk g a sc sm).E y && !isStar y) es)
  | .irange2 a b, sc, sm => ckI (onCall fun x es => two (fun y z => globK g sc x (.ty "range") && (chk g a sc sm).E y && (chk g b sc sm).E z && !isStar y && !isStar z) es)
  | .iobj a, sc, sm => ckI fun e => (chk g a sc sm).E e
  | .izip _ _, _, _ => ckI fun _ => false

noncomputable def isComp : Expr → Bool
  | .ListComp .. | .SetComp .. | .DictComp .. => true
  | _ => false
noncomputable def isTupleE : Expr → Bool
  | .Tuple .. => true
  | _ => false
noncomputable def stK (sc : Scope) (sm : List (Str × Nat)) (x : Str) (i : Nat) : Bool := (sc.names.lookup x == some .local || sc.names.lookup x == some .cell) && nameOk x && sm.lookup x == some i

/-- slots of a display of names -/
noncomputable def chkSlots (sc : Scope) (sm : List (Str × Nat)) : List Nat → List Expr → Bool
  | [], es => es.isEmpty
  | i :: is, es => (match es with | [] => false | e :: r => onName (fun x => stK sc sm x i) e && chkSlots sc sm is r)
noncomputable def chkTgt (sc : Scope) (sm : List (Str × Nat)) : MExpr → Expr → Bool
  | .loc i => onName fun x => stK sc sm x i
  | _ => fun _ => false

/-- a statement as the checker sees it -/
inductive SV where
  | assign (t v : Expr) | expr (v : Expr) | ifs (x : Expr) (y z : List Stmt) | fors (x y : Expr) (z : List Stmt) | whiles (x : Expr) (y : List Stmt) | ret (v : Option Expr) | raise (e : Expr) | tryx (y : List Stmt) (hs : List ExceptHandler) | other
noncomputable def sview : Stmt → SV
  | .Assign [t] v _ => .assign t v
  | .Expr v _ => .expr v
  | .If x y z _ => .ifs x y z
  | .For x y z [] _ => .fors x y z
  | .While x y [] _ => .whiles x y
  | .Return v _ => .ret v
  | .Raise (some e) none _ => .raise e
  | .Try y hs [] [] _ => .tryx y hs
  | _ => .other
inductive SVOk : Stmt → SV → Prop
  | assign (t v p) : SVOk (.Assign [t] v p) (.assign t v)
  | expr (v p) : SVOk (.Expr v p) (.expr v)
  | ifs (x y z p) : SVOk (.If x y z p) (.ifs x y z)
  | fors (x y z p) : SVOk (.For x y z [] p) (.fors x y z)
  | whiles (x y p) : SVOk (.While x y [] p) (.whiles x y)
  | ret (v p) : SVOk (.Return v p) (.ret v)
  | raise (e p) : SVOk (.Raise (some e) none p) (.raise e)
  | tryx (y hs p) : SVOk (.Try y hs [] [] p) (.tryx y hs)
  | other (s) : SVOk s .other
theorem sview_ok (s : Stmt) : SVOk s (sview s) := by
  cases s with
  | Assign ts v p =>
    cases ts with
    | nil => exact .other _
    | cons t r =>
      cases r with
      | nil => exact .assign t v p
      | cons => exact .other _
  | For x y z o p =>
    cases o with
    | nil => exact .fors x y z p
    | cons => exact .other _
  | While x y o p =>
    cases o with
    | nil => exact .whiles x y p
    | cons => exact .other _
  | Raise a b p =>
    cases a with
    | none => exact .other _
    | some e =>
      cases b with
      | none => exact .raise e p
      | some => exact .other _
  | Try y hs o f p =>
    cases o with
    | nil =>
      cases f with
      | nil => exact .tryx y hs p
      | cons => exact .other _
    | cons => exact .other _
  | _ => first | exact .other _ | constructor

structure ChkS where
  S : Stmt → Bool
  Ss : List Stmt → Bool
noncomputable def csS (f : Stmt → Bool) : ChkS := ⟨f, fun _ => false⟩
noncomputable def csV (f : SV → Bool) : ChkS := ⟨fun s => f (sview s), fun _ => false⟩
noncomputable def csL (f : List Stmt → Bool) : ChkS := ⟨fun _ => false, f⟩

noncomputable def noAsg : MStmt → Bool
  | .nil => true
  | .cons a b => noAsg a && noAsg b
  | .expr _ => true
  | .ret _ => true
  | .ifs _ t e => noAsg t && noAsg e
  | _ => false
noncomputable def isStrC : Const → Bool
  | .str _ => true
  | _ => false
/-- the suite of `except K as y: return isinstance(y, ValueError)` -/
noncomputable def asOk (g : GMap) (sc : Scope) (sm : List (Str × Nat)) (y : Str) (e : Expr) : Bool :=
  onCall (fun f es => globK g sc f (.bi "isinstance") && two (fun a b => onName (fun z => decide (z = y)) a && onName (fun z => globK g sc z (.ty "ValueError")) b) es) e && (sc.names.lookup y == some .local && nameOk y && (sm.lookup y).isNone)
noncomputable def onRet (k : Expr → Bool) (s : Stmt) : Bool := match sview s with | .ret (some e) => k e | _ => false
noncomputable def chkH1 (g : GMap) (sc : Scope) (sm : List (Str × Nat)) (k : Nat × Bool × Val) (h : ExceptHandler) : Bool := match h with
  | .ExceptHandler (some t) nm body _ => onName (fun x => globK g sc x (.cls k.1)) t && one (onRet fun e => match nm with
      | none => !k.2.1 && onConst (fun c => constIs k.2.2 c) e
      | some y => k.2.1 && asOk g sc sm y e && decide (k.2.2 = .bool true)) body
  | .ExceptHandler none _ _ _ => false
noncomputable def chkH (g : GMap) (sc : Scope) (sm : List (Str × Nat)) : List (Nat × Bool × Val) → List ExceptHandler → Bool
  | [], l => l.isEmpty
  | k :: r, l => (match l with | [] => false | h :: r' => chkH1 g sc sm k h && chkH g sc sm r r')

noncomputable def chkS (g : GMap) (sc : Scope) (sm : List (Str × Nat)) : MStmt → ChkS
  | .nil => csL fun l => l.isEmpty
  | .cons a b => csL fun l => match l with | s :: r => (chkS g sc sm a).S s && (chkS g sc sm b).Ss r | [] => false
  | .assign i e => csV fun s => match s with
      | .assign t v => onName (fun x => stK sc sm x i) t && (chk g e sc sm).E v
      | _ => false
  | .asub o i e => csV fun s => match s with
      | .assign t v => onSub (fun eo ei => (chk g e sc sm).E v && (chk g o sc sm).E eo && (chk g i sc sm).E ei && !isSlice ei) t
      | _ => false
  | .aattr _ _ _ => csS fun _ => false
  | .atup ts e => csV fun s => match s with
      | .assign t v => onTup (fun l => chkSlots sc sm ts l && (chk g e sc sm).E v && !isTupleE v && !isComp v) t
      | _ => false
  | .expr e => csV fun s => match s with
      | .expr v => (chk g e sc sm).E v && !isComp v
      | _ => false
  | .ifs c t e => csV fun s => match s with
      | .ifs x y z => (chk g c sc sm).E x && (chkS g sc sm t).Ss y && (chkS g sc sm e).Ss z
      | _ => false
  | .fors tgt it b => csV fun s => match s with
      | .fors x y z => chkTgt sc sm tgt x && (chk g it sc sm).I y && (chkS g sc sm b).Ss z
      | _ => false
  | .whiles c b => csV fun s => match s with
      | .whiles x y => (chk g c sc sm).E x && (chkS g sc sm b).Ss y
      | _ => false
  | .ret e => csV fun s => match s with
      | .ret (some v) => (chk g e sc sm).E v
      | .ret none => isNC e
      | _ => false
  | .raise c => csV fun s => match s with
      | .raise e => onCall (fun x es => globK g sc x (.cls c) && one (onConst isStrC) es) e
      | _ => false
  | .tryx b hs => csV fun s => match s with
      | .tryx y l => noAsg b && (chkS g sc sm b).Ss y && (!hs.isEmpty && chkH g sc sm hs l)
      | _ => false

noncomputable def chkFun (g : GMap) (names : List Str) (params : Arguments) (sc : Scope) (body : List Stmt) (d : MFun) : Bool :=
  params.posonlyargs.isEmpty && params.kwonlyargs.isEmpty && params.vararg.isNone && params.kwarg.isNone && params.defaults.isEmpty && params.kw_defaults.isEmpty &&
  decide (params.args.map (·.arg) = names.take d.np) && decide (names.Nodup) && decide (d.np ≤ names.length) && decide (names.length ≤ d.ns) &&
  sc.kind == .function && sc.isGenerator == false && sc.isCoroutine == false &&
  (names.all fun x => sc.names.lookup x == some .local || sc.names.lookup x == some .cell) &&
  (sc.names.all fun p => p.2 != .free) && decide (((cellsFrom 0 sc.names []).map (·.1)).Nodup) && (chkS g sc names.zipIdx d.body).Ss body

end Mine


-- part MiniSE
set_option maxRecDepth 4000
set_option linter.unusedVariables false
namespace Mine
open PySem

structure Cx (n : Nat) (B : Heap) (X : XE) (A : Around) (env : Env) (sc : Scope) (sm : List (Str × Nat)) (ρ : Rho) (μ : List Addr) (σ : MH) (h : Heap) : Prop where
  scope : env.scope = sc
  ok : AOk n A
  frm : Frm B env μ h
  vars : Vars env sm ρ μ h
  rel : HRel B μ σ h
  frames : A.frames = some X.l
  fok : FrOk B X.l μ h
  here : ∃ e0 outer, X.l = e0 :: outer ∧ e0.frame = env.frame
  apart : ∀ e, e ∈ X.l → ∀ L, e.frame = some L → ∀ x, env.cells.lookup x ≠ some L

theorem Cx.step {n : Nat} {B : Heap} {X : XE} {A : Around} {env : Env} {sc : Scope} {sm : List (Str × Nat)} {ρ : Rho} {μ μ' : List Addr} {σ σ' : MH} {h h' : Heap} (c : Cx n B X A env sc sm ρ μ σ h) (st : Step μ μ' h h') (r : HRel B μ' σ' h') : Cx n B X A env sc sm ρ μ' σ' h' :=
  ⟨c.scope, c.ok, c.frm.step st, c.vars.step c.frm st, r, c.frames, c.fok.step st, c.here, c.apart⟩
theorem Cx.kind {n : Nat} {B : Heap} {X : XE} {A : Around} {env : Env} {sc : Scope} {sm : List (Str × Nat)} {ρ : Rho} {μ : List Addr} {σ : MH} {h : Heap} (c : Cx n B X A env sc sm ρ μ σ h) (x : Str) : env.kindOf x = sc.names.lookup x := by
  unfold Env.kindOf; rw [c.scope]

section
variable (n : Nat) (C : Cf) (prog : Program) (w : World) (B : Heap) (sc : Scope) (sm : List (Str × Nat))

noncomputable def SE (m : MExpr) (e : Expr) : Prop :=
  ∀ {env ρ σ μ} {s : Shared} {A : Around} {X : XE} {Q : Value → Shared → Prop}, Cx n B X A env sc sm ρ μ σ s.heap → Post B X VRel μ s Q ((sem C m).E ρ σ) → wpAny (model prog w) A (eval e env) Q X.E s
noncomputable def ST (m : MExpr) (e : Expr) : Prop :=
  ∀ {env ρ σ μ} {s : Shared} {A : Around} {X : XE} {Q : Bool → Shared → Prop}, Cx n B X A env sc sm ρ μ σ s.heap → Post B X BRel μ s Q ((sem C m).T ρ σ) → wpAny (model prog w) A (isTrue e env (eval e env)) Q X.E s
noncomputable def SS (m : MExpr) (es : List Expr) : Prop :=
  ∀ {env ρ σ μ} {s : Shared} {A : Around} {X : XE} {Q : List Value → Shared → Prop} (pos : Pos), Cx n B X A env sc sm ρ μ σ s.heap → Post B X VsRel μ s Q ((sem C m).Es ρ σ) → wpAny (model prog w) A (spliced (backTo pos (starEach es env))) Q X.E s

/-- what an iterable gives: an iterator of our own -/
noncomputable def PostI (X : XE) (μ : List Addr) (s : Shared) (Q : Value → Shared → Prop) : Res Src → Prop
  | .ok (xs, ck) σ => ∀ μ' I At h' tk, HRel B μ' σ h' → Step μ μ' s.heap h' → I ∉ μ' → B.get? I = none → s.heap.get? I = none → Iter prog w B μ' xs ck I At → At 0 h' → ck σ = true → xs.length ≤ lim → Q (.ref I) { s with heap := h', toks := tk }
  | .exc c σ => PostX B X μ s c σ
  | .stuck => False
noncomputable def SI (m : MExpr) (e : Expr) : Prop :=
  (∀ env x, foldedSetIterable e env x = pure x) ∧
  ∀ {env ρ σ μ} {s : Shared} {A : Around} {X : XE} {Q : Value → Shared → Prop}, Cx n B X A env sc sm ρ μ σ s.heap → PostI prog w B X μ s Q ((sem C m).I ρ σ) →
    wpAny (model prog w) A (eval e env) (fun x s₁ => wpAny (model prog w) A (pyIter x) Q X.E s₁) X.E s
end

section
variable {n : Nat} {C : Cf} {prog : Program} {w : World} {B : Heap} {sc : Scope} {sm : List (Str × Nat)}
variable {env : Env} {ρ : Rho} {σ : MH} {μ : List Addr} {s : Shared} {A : Around} {E : Value → Shared → Prop} {X : XE}

theorem Post.bindR {α γ β δ : Type} {W : List Addr → γ → δ → Prop} {V : List Addr → α → β → Prop} {Q : β → Shared → Prop} {Q' : δ → Shared → Prop} {r : Res γ} {f : γ → MH → Res α} (p : Post B X V μ s Q (r.bind f))
    (k : ∀ v σ1 μ1 v' h1 tk, HRel B μ1 σ1 h1 → Step μ μ1 s.heap h1 → W μ1 v v' → Post B X V μ1 { s with heap := h1, toks := tk } Q (f v σ1) → Q' v' { s with heap := h1, toks := tk }) : Post B X W μ s Q' r := by
  cases r with
  | ok v σ1 => intro μ1 v' h1 tk r1 st hv; exact k v σ1 μ1 v' h1 tk r1 st hv (Post.step (x := f v σ1) p st)
  | exc c h => exact p
  | stuck => exact p

theorem SE.bind {α β : Type} {m : MExpr} {e : Expr} {V : List Addr → α → β → Prop} {Q : β → Shared → Prop} {Q' : Value → Shared → Prop} {f : Val → MH → Res α} (h : SE n C prog w B sc sm m e) (cx : Cx n B X A env sc sm ρ μ σ s.heap)
    (p : Post B X V μ s Q (((sem C m).E ρ σ).bind f))
    (k : ∀ v σ1 μ1 v' h1 tk, Cx n B X A env sc sm ρ μ1 σ1 h1 → Step μ μ1 s.heap h1 → VRel μ1 v v' → Post B X V μ1 { s with heap := h1, toks := tk } Q (f v σ1) → Q' v' { s with heap := h1, toks := tk }) : wpAny (model prog w) A (eval e env) Q' X.E s :=
  h cx (p.bindR fun v σ1 μ1 v' h1 tk r st hv q => k v σ1 μ1 v' h1 tk (cx.step st r) st hv q)
theorem ST.bind {α β : Type} {m : MExpr} {e : Expr} {V : List Addr → α → β → Prop} {Q : β → Shared → Prop} {Q' : Bool → Shared → Prop} {f : Bool → MH → Res α} (h : ST n C prog w B sc sm m e) (cx : Cx n B X A env sc sm ρ μ σ s.heap)
    (p : Post B X V μ s Q (((sem C m).T ρ σ).bind f))
    (k : ∀ v σ1 μ1 h1 tk, Cx n B X A env sc sm ρ μ1 σ1 h1 → Step μ μ1 s.heap h1 → Post B X V μ1 { s with heap := h1, toks := tk } Q (f v σ1) → Q' v { s with heap := h1, toks := tk }) : wpAny (model prog w) A (isTrue e env (eval e env)) Q' X.E s :=
  h cx (p.bindR fun v σ1 μ1 v' h1 tk r st hv q => by rw [← show v = v' from hv]; exact k v σ1 μ1 h1 tk (cx.step st r) st q)
theorem SS.bind {α β : Type} {m : MExpr} {es : List Expr} {V : List Addr → α → β → Prop} {Q : β → Shared → Prop} {Q' : List Value → Shared → Prop} {f : List Val → MH → Res α} {pos : Pos} (h : SS n C prog w B sc sm m es) (cx : Cx n B X A env sc sm ρ μ σ s.heap)
    (p : Post B X V μ s Q (((sem C m).Es ρ σ).bind f))
    (k : ∀ v σ1 μ1 v' h1 tk, Cx n B X A env sc sm ρ μ1 σ1 h1 → Step μ μ1 s.heap h1 → VsRel μ1 v v' → Post B X V μ1 { s with heap := h1, toks := tk } Q (f v σ1) → Q' v' { s with heap := h1, toks := tk }) : wpAny (model prog w) A (spliced (backTo pos (starEach es env))) Q' X.E s :=
  h pos cx (p.bindR fun v σ1 μ1 v' h1 tk r st hv q => k v σ1 μ1 v' h1 tk (cx.step st r) st hv q)

/-- truth by the value -/
theorem ST.plain {m : MExpr} {e : Expr} (h : SE n C prog w B sc sm m e) (ht : (sem C m).T = tOf (sem C m).E)
    (he : ∀ env whole, isTrue e env whole = (do let v ← whole; standAt e.pos; holding [v] (truthy v))) : ST n C prog w B sc sm m e := fun {env ρ σ μ s A X Q} cx p => by
  rw [ht] at p
  exact wpAny_isTrue_value (h.bind cx p fun v σ1 μ1 v' h1 tk cx1 _ hv q => truthy_sound cx1.rel hv q) (he _ _)

theorem se_const {v : Val} {c : Const} {k : Nat} {pos : Pos} (h : constIs v c = true) : SE n C prog w B sc sm (.const v) (.Constant c k pos) := fun {env ρ σ μ s A X Q} cx p => by
  have p : Post B X VRel μ s Q (.ok v σ) := p
  cases v with
  | none =>
    cases c with
    | none => exact wpAny_Constant_none (p.here' cx.rel rfl)
    | _ => exact (Bool.false_ne_true h).elim
  | bool a =>
    cases c with
    | bool b =>
      have h : (a == b) = true := h
      rw [beq_iff_eq] at h; subst h; exact wpAny_Constant_bool (p.here' cx.rel rfl)
    | _ => exact (Bool.false_ne_true h).elim
  | int a =>
    cases c with
    | int b =>
      have h : (a == b) = true := h
      rw [beq_iff_eq] at h; subst h; exact wpAny_Constant_int (p.here cx.rel ⟨_, rfl⟩)
    | _ => exact (Bool.false_ne_true h).elim
  | str a =>
    cases c with
    | str b =>
      have h : (decide (b = ⟨a.toArray⟩) && decide (a.length ≤ lim)) = true := h
      simp only [Bool.and_eq_true, decide_eq_true_eq] at h
      obtain ⟨rfl, hl⟩ := h
      exact wpAny_Constant_str (p.here cx.rel ⟨hl, _, rfl⟩)
    | _ => exact (Bool.false_ne_true h).elim
  | ref a => exact (Bool.false_ne_true h).elim

theorem nameOk_1 {x : Str} (h : nameOk x = true) : (x == ("__debug__" : Str)) = false := by
  unfold nameOk at h; simp only [Bool.and_eq_true, beq_iff_eq] at h; exact h.1
theorem nameOk_2 {x : Str} (h : nameOk x = true) : (x == ("__classdict__" : Str)) = false := by
  unfold nameOk at h; simp only [Bool.and_eq_true, beq_iff_eq] at h; exact h.2

theorem se_loc {i : Nat} {x : Str} {pos : Pos} (h : varK sc sm x i = true) : SE n C prog w B sc sm (.loc i) (.Name x pos) := fun {env ρ σ μ s A X Q} cx p => by
  have p : Post B X VRel μ s Q (locV i ρ σ) := p
  unfold varK at h
  simp only [Bool.and_eq_true, beq_iff_eq] at h
  obtain ⟨⟨h1, h2⟩, h3⟩ := h
  unfold locV at p
  split at p
  · rename_i v hv
    obtain ⟨u, b, r⟩ := cx.vars x i v (by rw [cx.kind]; exact h1) h3 hv
    refine wpAny_Name ?_ (nameOk_1 h2)
    rcases b with ⟨k, m, hn, hm⟩ | ⟨k | k, c, hc, hi⟩
    · exact wpAny_loadName_local cx.frm.kind k hn hm (p.here' cx.rel r)
    · exact wpAny_loadName_cell cx.frm.kind k hc hi (p.here' cx.rel r)
    · exact wpAny_loadName_free cx.frm.kind k hc hi (p.here' cx.rel r) (nameOk_2 h2)
  · exact p.elim

theorem se_bin {op : Operator} {a b : MExpr} {l r : Expr} {pos : Pos} (ha : SE n C prog w B sc sm a l) (hb : SE n C prog w B sc sm b r) : SE n C prog w B sc sm (.bin op a b) (.BinOp l op r pos) := fun {env ρ σ μ s A X Q} cx p =>
  wpAny_BinOp (ha.bind cx p fun v σ1 μ1 v' h1 tk cx1 _ hv q => hb.bind cx1 q fun u σ2 μ2 u' h2 tk2 cx2 st2 hu q2 => bin_sound cx2.rel (hv.mono st2.pre) hu q2)

theorem se_un {op : UnaryOp} {a : MExpr} {x : Expr} {pos : Pos} (ha : SE n C prog w B sc sm a x) : SE n C prog w B sc sm (.un op a) (.UnaryOp op x pos) := fun {env ρ σ μ s A X Q} cx p =>
  wpAny_UnaryOp (ha.bind cx p fun v σ1 μ1 v' h1 tk cx1 _ hv q => un_sound cx1.rel hv q)

theorem st_un {op : UnaryOp} {a : MExpr} {x : Expr} {pos : Pos} (ha : SE n C prog w B sc sm a x) (ta : ST n C prog w B sc sm a x) : ST n C prog w B sc sm (.un op a) (.UnaryOp op x pos) := fun {env ρ σ μ s A X Q} cx p => by
  cases op with
  | Not => exact wpAny_isTrue_Not (ta.bind cx p fun b σ1 μ1 h1 tk cx1 _ q => q.here' cx1.rel rfl)
  | _ => exact wpAny_isTrue_value (wpAny_UnaryOp (ha.bind cx (by rw [← Res.bind_assoc]; exact p) fun v σ1 μ1 v' h1 tk cx1 _ hv q => un_sound cx1.rel hv (q.bindR fun u σ2 μ2 u' h2 tk2 r2 st2 hu q2 => truthy_sound r2 hu q2)))

theorem eval_BoolOp1 (op : BoolOp) (y : Expr) (p : Pos) (env : Env) : eval (.BoolOp op [y] p) env = eval y env := by
  rw [arm_eval_BoolOp]; rfl
theorem eval_BoolOp2 (op : BoolOp) (x y : Expr) (r : List Expr) (p : Pos) (env : Env) : eval (.BoolOp op (x :: y :: r) p) env = (do
    let v ← eval x env
    standAt p
    let t ← holding [v] (truthy v)
    match op, t with
    | .And, false | .Or, true => pure v
    | _, _ => eval (.BoolOp op (y :: r) p) env) := by
  rw [arm_eval_BoolOp, arm_eval_BoolOp]; rfl

/-- the tail of a chain of and | or -/
noncomputable def tailB (op : BoolOp) (y : Expr) (r : List Expr) (p : Pos) : Expr := match r with | [] => y | _ => .BoolOp op (y :: r) p
theorem eval_tailB (op : BoolOp) (y : Expr) (r : List Expr) (p : Pos) (env : Env) : eval (.BoolOp op (y :: r) p) env = eval (tailB op y r p) env := by
  cases r with
  | nil => exact eval_BoolOp1 op y p env
  | cons z r => rfl

theorem se_and {a b : MExpr} {x y : Expr} {r : List Expr} {p : Pos} (ha : SE n C prog w B sc sm a x) (hb : SE n C prog w B sc sm b (tailB .And y r p)) : SE n C prog w B sc sm (.and a b) (.BoolOp .And (x :: y :: r) p) := fun {env ρ σ μ s A X Q} cx q => by
  rw [eval_BoolOp2]
  refine wpAny_bind (ha.bind cx q fun v σ1 μ1 v' h1 tk cx1 _ hv q1 => wpAny_bind (wpAny_standAt (wpAny_bind (wpAny_holding (truthy_sound cx1.rel hv (q1.bindR fun t σ2 μ2 t' h2 tk2 r2 st2 ht q2 => ?_))))))
  rw [← show t = t' from ht]
  cases t with
  | false => exact wpAny_pure (Post.here' (s := { s with heap := h2, toks := tk2 }) r2 q2 (hv.mono st2.pre))
  | true => rw [eval_tailB]; exact hb (cx1.step st2 r2) q2
theorem se_or {a b : MExpr} {x y : Expr} {r : List Expr} {p : Pos} (ha : SE n C prog w B sc sm a x) (hb : SE n C prog w B sc sm b (tailB .Or y r p)) : SE n C prog w B sc sm (.or a b) (.BoolOp .Or (x :: y :: r) p) := fun {env ρ σ μ s A X Q} cx q => by
  rw [eval_BoolOp2]
  refine wpAny_bind (ha.bind cx q fun v σ1 μ1 v' h1 tk cx1 _ hv q1 => wpAny_bind (wpAny_standAt (wpAny_bind (wpAny_holding (truthy_sound cx1.rel hv (q1.bindR fun t σ2 μ2 t' h2 tk2 r2 st2 ht q2 => ?_))))))
  rw [← show t = t' from ht]
  cases t with
  | true => exact wpAny_pure (Post.here' (s := { s with heap := h2, toks := tk2 }) r2 q2 (hv.mono st2.pre))
  | false => rw [eval_tailB]; exact hb (cx1.step st2 r2) q2

theorem isTrue_BoolOp (op : BoolOp) (vs : List Expr) (p : Pos) (env : Env) (whole : Sem Value) : isTrue (.BoolOp op vs p) env whole = allTrue op vs env := by
  rw [arm_isTrue_BoolOp]
theorem allTrue_tail {Q : Bool → Shared → Prop} (op : BoolOp) (y : Expr) (r : List Expr) (p : Pos) (h : wpAny (model prog w) A (isTrue (tailB op y r p) env (eval (tailB op y r p) env)) Q E s) : wpAny (model prog w) A (allTrue op (y :: r) env) Q E s := by
  cases r with
  | nil =>
    cases op with
    | And => exact wpAny_allTrue_And_cons (wpAny_mono h (fun b s' q => by cases b; exact q; exact wpAny_allTrue_And_nil q) fun _ _ x => x)
    | Or => exact wpAny_allTrue_Or_cons (wpAny_mono h (fun b s' q => by cases b; exact wpAny_allTrue_Or_nil q; exact q) fun _ _ x => x)
  | cons z r => rw [show tailB op y (z :: r) p = .BoolOp op (y :: z :: r) p from rfl, isTrue_BoolOp] at h; exact h

theorem st_and {a b : MExpr} {x y : Expr} {r : List Expr} {p : Pos} (ta : ST n C prog w B sc sm a x) (tb : ST n C prog w B sc sm b (tailB .And y r p)) : ST n C prog w B sc sm (.and a b) (.BoolOp .And (x :: y :: r) p) := fun {env ρ σ μ s A X Q} cx q =>
  wpAny_isTrue_BoolOp (wpAny_allTrue_And_cons (ta.bind cx q fun t σ1 μ1 h1 tk cx1 st1 q1 => by
    cases t with
    | false => exact Post.here' (s := { s with heap := h1, toks := tk }) cx1.rel q1 rfl
    | true => exact allTrue_tail .And y r p (tb cx1 q1)))
theorem st_or {a b : MExpr} {x y : Expr} {r : List Expr} {p : Pos} (ta : ST n C prog w B sc sm a x) (tb : ST n C prog w B sc sm b (tailB .Or y r p)) : ST n C prog w B sc sm (.or a b) (.BoolOp .Or (x :: y :: r) p) := fun {env ρ σ μ s A X Q} cx q =>
  wpAny_isTrue_BoolOp (wpAny_allTrue_Or_cons (ta.bind cx q fun t σ1 μ1 h1 tk cx1 st1 q1 => by
    cases t with
    | true => exact Post.here' (s := { s with heap := h1, toks := tk }) cx1.rel q1 rfl
    | false => exact allTrue_tail .Or y r p (tb cx1 q1)))

theorem se_cmp {op : CmpOp} {a b : MExpr} {l r : Expr} {pos : Pos} (hm : behindInMarks op r = false) (ha : SE n C prog w B sc sm a l) (hb : SE n C prog w B sc sm b r) : SE n C prog w B sc sm (.cmp op a b) (.Compare l [op] [r] pos) := fun {env ρ σ μ s A X Q} cx p =>
  wpAny_Compare1 (ha.bind cx p fun v σ1 μ1 v' h1 tk cx1 _ hv q => hb.bind cx1 q fun u σ2 μ2 u' h2 tk2 cx2 st2 hu q2 => cmp_sound cx2.ok cx2.rel (hv.mono st2.pre) hu q2) hm
theorem cmpT_sound {op : CmpOp} {v u : Val} {v' u' : Value} {Q : Bool → Shared → Prop} (ok : AOk n A) (r : HRel B μ σ s.heap) (hv : VRel μ v v') (hu : VRel μ u u')
    (p : Post B X BRel μ s Q (Res.opt (cmpV σ op v u) σ)) : wpAny (model prog w) A (compareOp op v' u') (fun c s₃ => wpAny (model prog w) A (truthy c) Q E s₃) E s := by
  refine cmp_sound (X := X) ok r hv hu ?_
  cases q : cmpV σ op v u with
  | none => rw [q] at p; exact p.elim
  | some t =>
    rw [q] at p
    intro μ' c h' tk r' st hc
    rw [show c = .bool t from hc]
    exact wpAny_truthy_bool (p μ' t h' tk r' st rfl)
theorem st_cmp {op : CmpOp} {a b : MExpr} {l r : Expr} {pos : Pos} (hm : behindInMarks op r = false) (ha : SE n C prog w B sc sm a l) (hb : SE n C prog w B sc sm b r) : ST n C prog w B sc sm (.cmp op a b) (.Compare l [op] [r] pos) := fun {env ρ σ μ s A X Q} cx p =>
  wpAny_isTrue_Compare1 (ha.bind cx p fun v σ1 μ1 v' h1 tk cx1 _ hv q => hb.bind cx1 q fun u σ2 μ2 u' h2 tk2 cx2 st2 hu q2 => cmpT_sound cx2.ok cx2.rel (hv.mono st2.pre) hu q2) hm

end
end Mine


-- part MiniSF
set_option maxRecDepth 4000
set_option linter.unusedVariables false
namespace Mine
open PySem

noncomputable def FnAt (g : GMap) (F : Nat → Option MFun) (B : Heap) (f : Nat) (a : Addr) : Prop :=
  ∃ o fd body names d, B.get? a = some o ∧ o.data = .func fd ∧ B.CodeRec fd.code fd.qualname ∧ fd.body = .stmts body ∧ fd.closure = [] ∧ fd.globals = mainGlobals ∧ fd.builtins = builtinsNs ∧ fd.defaults = .none ∧
    F f = some d ∧ chkFun g names fd.params fd.scope body d = true

structure GOk (g : GMap) (F : Nat → Option MFun) (B : Heap) (mg mb : Str → Option Value) : Prop where
  ng : B.Ns mainGlobals mg
  nb : B.Ns builtinsNs mb
  lim : B.NoLimit
  fn : ∀ x f, g.lookup x = some (.fn f) → ∃ a, mg x = some (.ref a) ∧ FnAt g F B f a
  const : ∀ x v, g.lookup x = some (.const v) → ∃ u, mg x = some u ∧ VRel [] v u
  ty : ∀ x T, g.lookup x = some (.ty T) → mg x = none ∧ mb x = some (.type T)
  bi : ∀ x T, g.lookup x = some (.bi T) → mg x = none ∧ mb x = some (.builtin T)
  cls : ∀ x c, g.lookup x = some (.cls c) → mg x = some (.ref (clsK B c)) ∧ ExcCls B c

noncomputable def CS (n : Nat) (C : Cf) (prog : Program) (w : World) (g : GMap) (F : Nat → Option MFun) (B : Heap) : Prop :=
  ∀ (f : Nat) (a : Addr) (vs : List Val) (ws : List Value) (μ : List Addr) (σ : MH) (s : Shared) (A : Around) (X : XE) (Q : Value → Shared → Prop), FnAt g F B f a → AOk n A → HRel B μ σ s.heap → A.frames = some X.l → FrOk B X.l μ s.heap → VsRel μ vs ws →
    Post B X VRel μ s Q (C f vs σ) → codeAny (model prog w) A (.call (.ref a) ⟨ws, []⟩) (fun r s' => match r with | .ok (.ret v) => Q v s' | .ok _ => False | .error e => X.E e s') s

section
variable {n : Nat} {C : Cf} {prog : Program} {w : World} {B : Heap} {sc : Scope} {sm : List (Str × Nat)} {g : GMap} {F : Nat → Option MFun} {mg mb : Str → Option Value}
variable {env : Env} {ρ : Rho} {σ : MH} {μ : List Addr} {s : Shared} {A : Around} {E : Value → Shared → Prop} {X : XE}

theorem globK_split {x : Str} {i : GI} (h : globK g sc x i = true) : sc.names.lookup x = some .globalImplicit ∧ nameOk x = true ∧ g.lookup x = some i := by
  unfold globK at h; simp only [Bool.and_eq_true, beq_iff_eq] at h; exact ⟨h.1.1, h.1.2, h.2⟩
theorem Ns_base {h : Heap} {a : Addr} {m : Str → Option Value} (r : HRel B μ σ h) (x : B.Ns a m) : h.Ns a m := Ns_at x fun o e => r.base _ o e

theorem glob_some {x : Str} {i : GI} {pos : Pos} {v : Value} {Q : Value → Shared → Prop} (G : GOk g F B mg mb) (h : globK g sc x i = true) (cx : Cx n B X A env sc sm ρ μ σ s.heap) (hv : mg x = some v) (hQ : Q v s) : wpAny (model prog w) A (eval (.Name x pos) env) Q E s := by
  obtain ⟨h1, h2, h3⟩ := globK_split h
  refine Calls.Name_function_global cx.frm.kind (by rw [cx.kind]; exact h1) (Calls.loadGlobal_global (mg := mg) ?_ hv hQ) (nameOk_1 h2)
  rw [cx.frm.glob]; exact Ns_base cx.rel G.ng
theorem glob_none {x : Str} {i : GI} {pos : Pos} {v : Value} {Q : Value → Shared → Prop} (G : GOk g F B mg mb) (h : globK g sc x i = true) (cx : Cx n B X A env sc sm ρ μ σ s.heap) (hv : mg x = none ∧ mb x = some v) (hQ : Q v s) : wpAny (model prog w) A (eval (.Name x pos) env) Q E s := by
  obtain ⟨h1, h2, h3⟩ := globK_split h
  refine Calls.Name_function_global cx.frm.kind (by rw [cx.kind]; exact h1) (Calls.loadGlobal_builtin (mg := mg) (mb := mb) ?_ hv.1 ?_ hv.2 hQ) (nameOk_1 h2)
  · rw [cx.frm.glob]; exact Ns_base cx.rel G.ng
  · rw [cx.frm.bl]; exact Ns_base cx.rel G.nb

theorem se_gconst {v : Val} {x : Str} {pos : Pos} (G : GOk g F B mg mb) (h : globK g sc x (.const v) = true) : SE n C prog w B sc sm (.gconst v) (.Name x pos) := fun {env ρ σ μ s A X Q} cx p => by
  have p : Post B X VRel μ s Q (.ok v σ) := p
  obtain ⟨u, e, r⟩ := G.const x v (globK_split h).2.2
  exact glob_some G h cx e (p.here' cx.rel (r.mono List.nil_prefix))

theorem star_cons {e : Expr} {r : List Expr} (h : isStar e = false) : starEach (e :: r) env = (false, eval e env) :: starEach r env := by
  cases e <;> first | rfl | exact (Bool.false_ne_true h.symm).elim

theorem ss_nil : SS n C prog w B sc sm .nil [] := fun {env ρ σ μ s A X Q} pos cx p => by
  have p : Post B X VsRel μ s Q (.ok [] σ) := p
  exact wpAny_items_nil (p.here' cx.rel rfl)
theorem ss_cons {a b : MExpr} {e : Expr} {r : List Expr} (hs : isStar e = false) (ha : SE n C prog w B sc sm a e) (hb : SS n C prog w B sc sm b r) : SS n C prog w B sc sm (.cons a b) (e :: r) := fun {env ρ σ μ s A X Q} pos cx p => by
  have p : Post B X VsRel μ s Q (((sem C a).E ρ σ).bind fun v h => ((sem C b).Es ρ h).bind fun vs h => .ok (v :: vs) h) := p
  refine wpAny_items_cons (ha.bind cx p fun v σ1 μ1 v' h1 tk cx1 _ hv q => hb.bind cx1 q fun vs σ2 μ2 vs' h2 tk2 cx2 st2 hvs q2 => ?_) (star_cons hs)
  exact Post.here' (s := { s with heap := h2, toks := tk2 }) cx2.rel q2 (VsRel.cons (hv.mono st2.pre) hvs)

noncomputable def NoStar (es : List Expr) : Prop := ∀ e ∈ es, isStar e = false
theorem noStar_back {es : List Expr} (h : NoStar es) {pos : Pos} : (backTo pos (starEach es env)).any (·.1) = false := by
  induction es with
  | nil => rfl
  | cons e r ih =>
    rw [star_cons (h e (.head _))]
    show (false || (backTo pos (starEach r env)).any (·.1)) = false
    rw [ih fun x hx => h x (.tail _ hx)]; rfl
theorem args_eq {f : Value} {es : List Expr} {pos : Pos} {Q : Args → Shared → Prop} (h : NoStar es) (k : wpAny (model prog w) A (spliced (backTo pos (starEach es env))) (fun vs s' => Q ⟨vs, []⟩ s') E s) :
    wpAny (model prog w) A (evalArgs f true (backTo pos (starEach es env)) []) Q E s := by
  cases es with
  | nil =>
    unfold evalArgs
    show wpAny (model prog w) A (spliced [] >>= _) Q E s
    refine wpAny_bind (wpAny_mono k (fun vs s' hq => ?_) fun _ _ h => h)
    refine wpAny_bind (wpAny_pure ?_)
    refine wpAny_holding ?_
    exact wpAny_bind (wpAny_pure (wpAny_bind (wpAny_pure (wpAny_pure hq))))
  | cons e r =>
    rw [star_cons (h e (.head _))] at k ⊢
    exact Calls.evalArgs_plain k

theorem se_call {f : Nat} {args : MExpr} {x : Str} {es : List Expr} {p1 pos : Pos} (G : GOk g F B mg mb) (cs : CS n C prog w g F B) (h : globK g sc x (.fn f) = true) (ns : NoStar es) (ha : SS n C prog w B sc sm args es) :
    SE n C prog w B sc sm (.call f args) (.Call (.Name x p1) es [] pos) := fun {env ρ σ μ s A X Q} cx p => by
  have p : Post B X VRel μ s Q (((sem C args).Es ρ σ).bind fun vs h => C f vs h) := p
  obtain ⟨a, e, fa⟩ := G.fn x f (globK_split h).2.2
  have ⟨o, fd, body, names, d, ho, hd, _⟩ := fa
  refine wpAny_Call_Name_kw (glob_some G h cx e ?_)
  show wpAny (model prog w) A (callWith pos (.ref a) [] (backTo pos (starEach es env)) []) Q X.E s
  refine Calls.callWith_function (o := o) (fd := fd) (args_eq ns (ha.bind cx p fun vs σ1 μ1 ws h1 tk cx1 _ hvs q => ⟨⟨cx1.rel.base _ _ ho, hd⟩, ?_⟩))
  exact wpAny_call (cs f a vs ws μ1 σ1 _ A X Q fa cx1.ok cx1.rel cx1.frames cx1.fok hvs q)

end
end Mine


-- part MiniSG
set_option maxRecDepth 4000
set_option linter.unusedVariables false
namespace Mine
open PySem

section
variable {n : Nat} {C : Cf} {prog : Program} {w : World} {B : Heap} {sc : Scope} {sm : List (Str × Nat)} {g : GMap} {F : Nat → Option MFun} {mg mb : Str → Option Value}
variable {env : Env} {ρ : Rho} {σ : MH} {μ : List Addr} {s : Shared} {A : Around} {E : Value → Shared → Prop} {X : XE}

theorem cmpB_sound {op : CmpOp} {v u : Val} {v' u' : Value} {α β : Type} {V : List Addr → α → β → Prop} {Q : β → Shared → Prop} {Q' : Value → Bool → Shared → Prop} {f : Bool → MH → Res α} (ok : AOk n A) (r : HRel B μ σ s.heap) (hv : VRel μ v v') (hu : VRel μ u u')
    (p : Post B X V μ s Q ((Res.opt (cmpV σ op v u) σ).bind f))
    (k : ∀ t σ1 μ1 h1 tk, HRel B μ1 σ1 h1 → Step μ μ1 s.heap h1 → Post B X V μ1 { s with heap := h1, toks := tk } Q (f t σ1) → Q' (.bool t) t { s with heap := h1, toks := tk }) :
    wpAny (model prog w) A (compareOp op v' u') (fun c s₃ => wpAny (model prog w) A (truthy c) (fun t s₄ => Q' c t s₄) E s₃) E s := by
  refine cmp_sound (X := X) ok r hv hu ?_
  cases q : cmpV σ op v u with
  | none => rw [q] at p; exact p.elim
  | some t =>
    rw [q] at p
    intro μ' c h' tk r' st hc
    rw [show c = .bool t from hc]
    exact wpAny_truthy_bool (k t σ μ' h' tk r' st (Post.step (x := f t σ) p st))

theorem se_cmp2 {o₁ o₂ : CmpOp} {a b c : MExpr} {l r₁ r₂ : Expr} {pos : Pos} (hm : lastMarks [o₁, o₂] [r₁, r₂] = false) (ha : SE n C prog w B sc sm a l) (hb : SE n C prog w B sc sm b r₁) (hc : SE n C prog w B sc sm c r₂) :
    SE n C prog w B sc sm (.cmp2 o₁ o₂ a b c) (.Compare l [o₁, o₂] [r₁, r₂] pos) := fun {env ρ σ μ s A X Q} cx p => by
  refine PyProof.Rows.Compare_chain (ha.bind cx p fun v σ1 μ1 v' h1 tk cx1 _ hv q => PyProof.Rows.chain_link (hb.bind cx1 q fun u σ2 μ2 u' h2 tk2 cx2 st2 hu q2 =>
    cmpB_sound (Q' := fun c t s₃ => if t then wpAny (model prog w) A (compareChain pos u' [o₂] [eval r₂ env]) Q X.E s₃ else Q c s₃) cx2.ok cx2.rel (hv.mono st2.pre) hu q2 fun t σ3 μ3 h3 tk3 r3 st3 q3 => ?_)) hm
  cases t with
  | false => exact Post.here' (s := { s with heap := h3, toks := tk3 }) r3 q3 rfl
  | true => exact PyProof.Rows.chain_last (hc.bind (cx2.step st3 r3) q3 fun x σ4 μ4 x' h4 tk4 cx4 st4 hx q4 => cmp_sound cx4.ok cx4.rel (hu.mono (st3.pre.trans st4.pre)) hx q4)
theorem st_cmp2 {o₁ o₂ : CmpOp} {a b c : MExpr} {l r₁ r₂ : Expr} {pos : Pos} (hm : lastMarks [o₁, o₂] [r₁, r₂] = false) (ha : SE n C prog w B sc sm a l) (hb : SE n C prog w B sc sm b r₁) (hc : SE n C prog w B sc sm c r₂) :
    ST n C prog w B sc sm (.cmp2 o₁ o₂ a b c) (.Compare l [o₁, o₂] [r₁, r₂] pos) := fun {env ρ σ μ s A X Q} cx p => by
  refine PyProof.Rows.isTrue_chain (ha.bind cx p fun v σ1 μ1 v' h1 tk cx1 _ hv q => PyProof.Rows.test_link (hb.bind cx1 q fun u σ2 μ2 u' h2 tk2 cx2 st2 hu q2 =>
    cmpB_sound (Q' := fun c t s₃ => if t then wpAny (model prog w) A (testChain pos u' [o₂] [eval r₂ env]) Q X.E s₃ else Q false s₃) cx2.ok cx2.rel (hv.mono st2.pre) hu q2 fun t σ3 μ3 h3 tk3 r3 st3 q3 => ?_)) hm
  cases t with
  | false => exact Post.here' (s := { s with heap := h3, toks := tk3 }) r3 q3 rfl
  | true => exact PyProof.Rows.test_last (hc.bind (cx2.step st3 r3) q3 fun x σ4 μ4 x' h4 tk4 cx4 st4 hx q4 => cmpT_sound cx4.ok cx4.rel (hu.mono (st3.pre.trans st4.pre)) hx q4)

/-- a call of a built-in function or type by its name -/
theorem call_bi {x : Str} {i : GI} {v : Value} {es : List Expr} {p1 pos : Pos} {Q : Value → Shared → Prop} (G : GOk g F B mg mb) (h : globK g sc x i = true) (hv : mg x = none ∧ mb x = some v) (hk : (∃ T, v = .type T) ∨ (∃ T, v = .builtin T)) (cx : Cx n B X A env sc sm ρ μ σ s.heap) (ns : NoStar es)
    (k : wpAny (model prog w) A (spliced (backTo pos (starEach es env))) (fun vs s₁ => wpAny (model prog w) A (call v vs) Q E s₁) E s) : wpAny (model prog w) A (eval (.Call (.Name x p1) es [] pos) env) Q E s := by
  refine wpAny_Call_Name_kw (glob_none G h cx hv ?_)
  show wpAny (model prog w) A (callWith pos v [] (backTo pos (starEach es env)) []) Q E s
  rcases hk with ⟨T, rfl⟩ | ⟨T, rfl⟩
  · exact callWith_type (noStar_back ns) (args_eq ns k)
  · exact Calls.callWith_builtin (noStar_back ns) (args_eq ns k)

theorem biGI_ok {b : BI} (G : GOk g F B mg mb) {x : Str} (h : g.lookup x = some (biGI b)) : (mg x = none ∧ mb x = some (biFn b)) ∧ ((∃ T, biFn b = .type T) ∨ (∃ T, biFn b = .builtin T)) := by
  cases b
  · exact ⟨G.bi x _ h, .inr ⟨_, rfl⟩⟩
  · exact ⟨G.bi x _ h, .inr ⟨_, rfl⟩⟩
  · exact ⟨G.bi x _ h, .inr ⟨_, rfl⟩⟩
  · exact ⟨G.bi x _ h, .inr ⟨_, rfl⟩⟩
  · exact ⟨G.ty x _ h, .inl ⟨_, rfl⟩⟩
  · exact ⟨G.ty x _ h, .inl ⟨_, rfl⟩⟩
  · exact ⟨G.bi x _ h, .inr ⟨_, rfl⟩⟩
  · exact ⟨G.ty x _ h, .inl ⟨_, rfl⟩⟩

theorem se_bi {b : BI} {args : MExpr} {x : Str} {es : List Expr} {p1 pos : Pos} (G : GOk g F B mg mb) (h : globK g sc x (biGI b) = true) (ns : NoStar es) (ha : SS n C prog w B sc sm args es) :
    SE n C prog w B sc sm (.bi b args) (.Call (.Name x p1) es [] pos) := fun {env ρ σ μ s A X Q} cx p => by
  obtain ⟨h1, h2⟩ := biGI_ok G (globK_split h).2.2
  exact call_bi G h h1 h2 cx ns (ha.bind cx p fun vs σ1 μ1 ws h1 tk cx1 _ hvs q => bi_sound cx1.ok cx1.rel hvs q)

theorem one_spliced {e : Expr} {pos : Pos} {Q : List Value → Shared → Prop} (hs : isStar e = false) (k : wpAny (model prog w) A (eval e env) (fun v s₁ => Q [v] s₁) E s) : wpAny (model prog w) A (spliced (backTo pos (starEach [e] env))) Q E s :=
  wpAny_items_cons (wpAny_mono k (fun v s₁ q => wpAny_items_nil q) fun _ _ h => h) (star_cons hs)
theorem two_spliced {e e' : Expr} {pos : Pos} {Q : List Value → Shared → Prop} (hs : isStar e = false) (hs' : isStar e' = false) (k : wpAny (model prog w) A (eval e env) (fun v s₁ => wpAny (model prog w) A (eval e' env) (fun v' s₂ => Q [v, v'] s₂) E s₁) E s) : wpAny (model prog w) A (spliced (backTo pos (starEach [e, e'] env))) Q E s :=
  wpAny_items_cons (wpAny_mono k (fun v s₁ q => one_spliced hs' q) fun _ _ h => h) (star_cons hs)

theorem se_isinst {t : Ty} {a : MExpr} {x z : Str} {y : Expr} {p1 p2 pos : Pos} (G : GOk g F B mg mb) (h : globK g sc x (.bi "isinstance") = true) (hz : globK g sc z (.ty (tyName t)) = true) (hs : isStar y = false) (ha : SE n C prog w B sc sm a y) :
    SE n C prog w B sc sm (.isinst t a) (.Call (.Name x p1) [y, .Name z p2] [] pos) := fun {env ρ σ μ s A X Q} cx p => by
  refine call_bi G h (G.bi x _ (globK_split h).2.2) (.inr ⟨_, rfl⟩) cx (fun e he => ?_) (two_spliced hs rfl (ha.bind cx p fun v σ1 μ1 v' h1 tk cx1 _ hv q => glob_none G hz cx1 (G.ty z _ (globK_split hz).2.2) (isinst_sound cx1.rel hv q)))
  rcases List.mem_cons.mp he with rfl | he
  · exact hs
  · rw [List.mem_singleton.mp he]; rfl

theorem se_lst {a : MExpr} {es : List Expr} {pos : Pos} (ha : SS n C prog w B sc sm a es) : SE n C prog w B sc sm (.lst a) (.List es pos) := fun {env ρ σ μ s A X Q} cx p =>
  wpAny_List (ha.bind cx p fun vs σ1 μ1 ws h1 tk cx1 _ hvs q => ⟨by
    have := newList_len q; rw [hvs.length]; exact Nat.le_trans this (by decide), Post.newList (s := { s with heap := h1, toks := tk }) (n := 0) cx1.rel q (push_keep _ _) (Heap.get?_push_size _ rfl) hvs⟩)
theorem se_tup {a : MExpr} {es : List Expr} {k : Nat} {pos : Pos} (ha : SS n C prog w B sc sm a es) : SE n C prog w B sc sm (.tup a) (.Tuple es k pos) := fun {env ρ σ μ s A X Q} cx p =>
  wpAny_Tuple (ha.bind cx p fun vs σ1 μ1 ws h1 tk cx1 _ hvs q => by
    by_cases hl : vs.length ≤ lim
    · rw [if_pos hl] at q
      exact ⟨by rw [hvs.length]; exact Nat.le_trans hl (by decide), Post.new (s := { s with heap := h1, toks := tk }) cx1.rel q (push_keep _ _) ⟨hl, ws, 0, Heap.get?_push_size _ rfl, hvs.mono (List.prefix_append _ _)⟩⟩
    · rw [if_neg hl] at q; exact q.elim)

theorem se_sub {a b : MExpr} {l r : Expr} {pos : Pos} (hs : isSlice r = false) (ha : SE n C prog w B sc sm a l) (hb : SE n C prog w B sc sm b r) : SE n C prog w B sc sm (.sub a b) (.Subscript l r pos) := fun {env ρ σ μ s A X Q} cx p =>
  PyProof.Rows.Subscript_ (ha.bind cx p fun v σ1 μ1 v' h1 tk cx1 _ hv q => hb.bind cx1 q fun u σ2 μ2 u' h2 tk2 cx2 st2 hu q2 => sub_sound cx2.rel (hv.mono st2.pre) hu q2 (by
    cases r <;> first | rfl | exact (Bool.false_ne_true hs.symm).elim))

theorem base_ok {o : Expr} {name : Str} {whole : Sem Value} (h : baseOk o = true) : attributeBase o name env whole = whole := by
  cases o with
  | Call f es kw p =>
    cases f with
    | Name x q =>
      cases es with
      | nil =>
        cases kw with
        | nil => exact (Bool.false_ne_true h).elim
        | cons => rfl
      | cons => rfl
    | _ => rfl
  | _ => rfl

theorem me_type {v : Val} {v' : Value} (r : HRel B μ σ s.heap) (hv : VRel μ v v') (h : isLV σ v = true) : s.TypeIs v' "list" ∧ ∀ a, v' = .ref a → ∃ ob, s.heap.get? a = some ob ∧ ob.dict = none := by
  cases v with
  | ref i =>
    obtain ⟨a, ea, rfl⟩ := hv
    have h : isListAt σ i = true := h
    unfold isListAt at h
    split at h
    · rename_i xs hz
      obtain ⟨_, ys, k, gg, _⟩ := r.at ea hz
      exact ⟨⟨_, gg, rfl⟩, fun b q => by cases q; exact ⟨_, gg, rfl⟩⟩
    · cases h
  | _ => cases h
theorem me_typeS {v : Val} {v' : Value} (hv : VRel μ v v') (h : isSV v = true) : s.TypeIs v' "str" ∧ ∀ a, v' = .ref a → ∃ ob, s.heap.get? a = some ob ∧ ob.dict = none := by
  cases v with
  | str x => obtain ⟨_, t, rfl⟩ := hv; exact ⟨typeIs_str _ _ _, fun _ e => nomatch e⟩
  | _ => cases h
theorem me_slot {m : Me} {v : Val} {v' : Value} (r : HRel B μ σ s.heap) (hv : VRel μ v v') (h : meOk σ m v = true) : ∃ T, PlainAttrs T ∧ Slot T (meName m) (meFn m) ∧ typeOf (.builtin (meFn m)) = pure (.type "method_descriptor") ∧ s.TypeIs v' T ∧ ∀ a, v' = .ref a → ∃ ob, s.heap.get? a = some ob ∧ ob.dict = none := by
  cases m with
  | append => exact ⟨_, F.plainAttrs_list, F.slot_list_append, F.type_list_append, me_type r hv h⟩
  | join => exact ⟨_, F.plainAttrs_str, F.slot_str_join, F.type_str_join, me_typeS hv h⟩
  | split => exact ⟨_, F.plainAttrs_str, F.slot_str_split, F.type_str_split, me_typeS hv h⟩
  | sidx => exact ⟨_, F.plainAttrs_str, F.slot_str_index, F.type_str_index, me_typeS hv h⟩

theorem few_ok {es : List Expr} {pos : Pos} (ns : NoStar es) (hl : es.length < 20) : ((backTo pos (starEach es env)).all (fun x => !x.1) && (backToKw pos (keywordEach [] env)).all (fun x => x.1.isSome)
      && decide (es.length + ([] : List Keyword).length + (if ([] : List Keyword).isEmpty then 0 else 1) < 30)) = true := by
  have h1 := noStar_back (env := env) ns (pos := pos)
  have h2 : (backTo pos (starEach es env)).all (fun x => !x.1) = true := by
    rw [List.all_eq_true]; intro x hx
    rw [List.any_eq_false] at h1
    simpa using h1 x hx
  rw [h2]
  show (true && true && decide (es.length + 0 + 0 < 30)) = true
  simp only [Bool.true_and, decide_eq_true_eq]
  omega

theorem se_meth {m : Me} {o args : MExpr} {eo : Expr} {es : List Expr} {apos pos : Pos} (hb : baseOk eo = true) (hline : (apos.endLine == pos.line) = true) (hl : es.length < 20) (ns : NoStar es) (ho : SE n C prog w B sc sm o eo) (ha : SS n C prog w B sc sm args es) :
    SE n C prog w B sc sm (.meth m o args) (.Call (.Attribute eo (meName m) apos) es [] pos) := fun {env ρ σ μ s A X Q} cx p => by
  refine wpAny_Call_method_late (base_ok hb) (few_ok ns hl) hline rfl (ho.bind cx p fun v σ1 μ1 v' h1 tk cx1 _ hv q => ?_)
  by_cases hm : meOk σ1 m v = true
  · rw [if_pos hm] at q
    obtain ⟨T, k0, k1, k2, t1, t2⟩ := me_slot (s := { s with heap := h1, toks := tk }) cx1.rel hv hm
    refine ⟨T, meFn m, k0, k1, k2, t1, t2, ?_⟩
    exact Calls.callWith_builtin (noStar_back ns) (args_eq ns (ha.bind cx1 q fun vs σ2 μ2 ws h2 tk2 cx2 st2 hvs q2 => me_sound cx2.ok cx2.rel (hv.mono st2.pre) hvs q2))
  · rw [if_neg hm] at q; exact q.elim

end
end Mine


-- part MiniSH
set_option maxRecDepth 4000
set_option linter.unusedVariables false
namespace Mine
open PySem

section
variable (n : Nat) (C : Cf) (prog : Program) (w : World) (B : Heap) (sc : Scope) (sm : List (Str × Nat))
noncomputable def SO (m : MExpr) (x : Option Expr) : Prop :=
  ∀ {env ρ σ μ} {s : Shared} {A : Around} {X : XE} {Q : Value → Shared → Prop}, Cx n B X A env sc sm ρ μ σ s.heap → Post B X VRel μ s Q (((sem C m).Es ρ σ).bind fun vs h => Res.opt (optOf vs) h) → wpAny (model prog w) A (evalPart x env) Q X.E s
end

section
variable {n : Nat} {C : Cf} {prog : Program} {w : World} {B : Heap} {sc : Scope} {sm : List (Str × Nat)} {g : GMap} {F : Nat → Option MFun} {mg mb : Str → Option Value}
variable {env : Env} {ρ : Rho} {σ : MH} {μ : List Addr} {s : Shared} {A : Around} {E : Value → Shared → Prop} {X : XE}

theorem so_nil : SO n C prog w B sc sm .nil none := fun {env ρ σ μ s A X Q} cx p => by
  have p : Post B X VRel μ s Q (.ok .none σ) := p
  exact wpAny_pure (p.here' cx.rel rfl)
theorem so_cons {a : MExpr} {e : Expr} (ha : SE n C prog w B sc sm a e) : SO n C prog w B sc sm (.cons a .nil) (some e) := fun {env ρ σ μ s A X Q} cx p => by
  have p : Post B X VRel μ s Q ((((sem C a).E ρ σ).bind fun v h => (Res.ok [] h).bind fun vs h => .ok (v :: vs) h).bind fun vs h => Res.opt (optOf vs) h) := p
  rw [Res.bind_assoc] at p
  show wpAny (model prog w) A (eval e env) Q X.E s
  exact ha.bind cx p fun v σ1 μ1 v' h1 tk cx1 _ hv q => Post.here' (s := { s with heap := h1, toks := tk }) (v := v) cx1.rel q hv
theorem SO.bind {α β : Type} {m : MExpr} {x : Option Expr} {V : List Addr → α → β → Prop} {Q : β → Shared → Prop} {Q' : Value → Shared → Prop} {f : Val → MH → Res α} (h : SO n C prog w B sc sm m x) (cx : Cx n B X A env sc sm ρ μ σ s.heap)
    (p : Post B X V μ s Q ((((sem C m).Es ρ σ).bind fun vs h => Res.opt (optOf vs) h).bind f))
    (k : ∀ v σ1 μ1 v' h1 tk, Cx n B X A env sc sm ρ μ1 σ1 h1 → Step μ μ1 s.heap h1 → VRel μ1 v v' → Post B X V μ1 { s with heap := h1, toks := tk } Q (f v σ1) → Q' v' { s with heap := h1, toks := tk }) : wpAny (model prog w) A (evalPart x env) Q' X.E s :=
  h cx (p.bindR fun v σ1 μ1 v' h1 tk r st hv q => k v σ1 μ1 v' h1 tk (cx.step st r) st hv q)

theorem slice_sound {v lo hi : Val} {v' lo' hi' : Value} {value slice : Expr} {Q : Value → Shared → Prop} (r : HRel B μ σ s.heap) (hv : VRel μ v v') (hlo : VRel μ lo lo') (hhi : VRel μ hi hi') (p : Post B X VRel μ s Q (sliceV σ v lo hi))
    (hs : ∀ i, subscripted slice false v' i = operate [i, v'] (getItem v' i)) :
    wpAny (model prog w) A (PyProof.Rows.subscriptTail value slice v' (.ref s.heap.objs.size)) Q E { s with heap := s.heap.push { cls := .type "slice", data := .fields #[lo', hi', .none] } } := by
  cases v with
  | ref i =>
    cases hq : σ[i]? with
    | none => simp only [sliceV, hq] at p; exact p.elim
    | some o =>
      cases o with
      | list xs =>
        simp only [sliceV, hq] at p
        unfold sliceL at p
        split at p
        · rename_i a b ha hb; exact slice_list_sound r hq hv hlo hhi ha hb p hs
        · exact p.elim
      | _ => simp only [sliceV, hq] at p; exact p.elim
  | str x =>
    have p : Post B X VRel μ s Q (sliceS σ x lo hi) := p
    unfold sliceS at p
    split at p
    · rename_i a b ha hb; exact slice_str_sound r hv hlo hhi ha hb p hs
    · exact p.elim
  | _ => exact p.elim

theorem se_slice {a lo hi : MExpr} {l : Expr} {x y : Option Expr} {p1 pos : Pos} (ha : SE n C prog w B sc sm a l) (hlo : SO n C prog w B sc sm lo x) (hhi : SO n C prog w B sc sm hi y) :
    SE n C prog w B sc sm (.slice a lo hi) (.Subscript l (.Slice x y none p1) pos) := fun {env ρ σ μ s A X Q} cx p =>
  PyProof.Rows.Subscript_ (ha.bind cx p fun v σ1 μ1 v' h1 tk cx1 _ hv q => wpAny_Slice (hlo.bind cx1 q fun u σ2 μ2 u' h2 tk2 cx2 st2 hu q2 => hhi.bind cx2 q2 fun z σ3 μ3 z' h3 tk3 cx3 st3 hz q3 =>
    wpAny_pure (slice_sound (s := { s with heap := h3, toks := tk3 }) cx3.rel (hv.mono (st2.pre.trans st3.pre)) (hu.mono st3.pre) hz q3 fun i => rfl)))

theorem rangeSize_of (a b : Int) : Builtin.Range.rangeSize a b 1 = ((b - a).toNat : Int) := by
  unfold Builtin.Range.rangeSize
  rw [if_pos (by omega)]
  split
  · rw [Int.ediv_one]; omega
  · omega

theorem range_iter {a b : Int} {r : Addr} {t u v : Tok} {Q : Value → Shared → Prop} (rel : HRel B μ σ s.heap) (hr : IsRange s.heap r a b 1 t u v) (hok : rangeOk a b = true)
    (p : PostI prog w B X μ s Q (.ok (rangeVals a (b - a).toNat, fun _ => true) σ)) : wpAny (model prog w) A (pyIter (.ref r)) Q E s := by
  have hlim : lim = 1048576 := rfl
  unfold rangeOk at hok
  simp only [Bool.and_eq_true, decide_eq_true_eq] at hok
  refine wpAny_pyIter_range hr ?_ ?_
  · exact small_one (by omega) (by omega) (by omega) (by omega)
  · refine p μ _ (fun i h => IsRangeIter h s.heap.objs.size (a + (i : Nat)) (((b - a).toNat : Int) - (i : Nat)) 1) _ _ (rel.grow (push_keep _ _)) (Step.grow (push_keep _ _)) rel.fresh rel.freshB (size_none _) iter_range ?_ rfl (by rw [rangeVals_length]; omega)
    show (s.heap.push _).get? s.heap.objs.size = _
    rw [Heap.get?_push_size _ rfl, rangeSize_of]
    simp

theorem call_range1 {v : Val} {v' : Value} {Q : Value → Shared → Prop} (rel : HRel B μ σ s.heap) (hv : VRel μ v v') (p : PostI prog w B X μ s Q (irangeV v σ)) : wpAny (model prog w) A (call (.type "range") [v']) (fun x s₁ => wpAny (model prog w) A (pyIter x) Q E s₁) E s := by
  unfold irangeV at p
  split at p
  · rename_i k
    obtain ⟨t, rfl⟩ := hv
    split at p
    · rename_i hok
      refine call_range_1 (range_iter (X := X) (s := { s with heap := s.heap.push _, toks := s.toks + 1 + 1 }) (rel.grow (push_keep _ _)) (Heap.get?_push_size _ rfl) hok ?_)
      rw [Int.sub_zero]
      intro μ' I At h' tk r' st a1 a2 a3 a4 a5 a6 a7
      refine p μ' I At h' tk r' ((Step.grow (push_keep _ _)).trans st) a1 a2 ?_ a4 a5 a6 a7
      cases e : s.heap.get? I with
      | none => rfl
      | some o => rw [Heap.get?_push_of_some _ e] at a3; cases a3
    · exact p.elim
  · exact p.elim
theorem call_range2 {v u : Val} {v' u' : Value} {Q : Value → Shared → Prop} (rel : HRel B μ σ s.heap) (hv : VRel μ v v') (hu : VRel μ u u') (p : PostI prog w B X μ s Q (irange2V v u σ)) : wpAny (model prog w) A (call (.type "range") [v', u']) (fun x s₁ => wpAny (model prog w) A (pyIter x) Q E s₁) E s := by
  unfold irange2V at p
  split at p
  · rename_i k
    obtain ⟨t, rfl⟩ := hv
    obtain ⟨t', rfl⟩ := hu
    split at p
    · rename_i hok
      refine call_range_2 (range_iter (X := X) (s := { s with heap := s.heap.push _, toks := s.toks + 1 }) (rel.grow (push_keep _ _)) (Heap.get?_push_size _ rfl) hok ?_)
      intro μ' I At h' tk r' st a1 a2 a3 a4 a5 a6 a7
      refine p μ' I At h' tk r' ((Step.grow (push_keep _ _)).trans st) a1 a2 ?_ a4 a5 a6 a7
      cases e : s.heap.get? I with
      | none => rfl
      | some o => rw [Heap.get?_push_of_some _ e] at a3; cases a3
    · exact p.elim
  · exact p.elim

theorem PostI.step {Q : Value → Shared → Prop} {x : Res Src} {μ' : List Addr} {h' : Heap} {tk : Nat} (p : PostI prog w B X μ s Q x) (st : Step μ μ' s.heap h') : PostI prog w B X μ' { s with heap := h', toks := tk } Q x := by
  cases x with
  | ok v σ' =>
    obtain ⟨xs, ck⟩ := v
    intro μ'' I At h'' tk' r st' a1 a2 a3 a4 a5 a6 a7
    refine p μ'' I At h'' tk' r (st.trans st') a1 a2 ?_ a4 a5 a6 a7
    cases e : s.heap.get? I with
    | none => rfl
    | some o =>
      by_cases hm : I ∈ μ
      · exact absurd (st.pre.trans st'.pre |>.subset hm) a1
      · obtain ⟨o', e', _⟩ := look_elim (st.keep I _ hm (look_of e)); rw [e'] at a3; cases a3
  | exc c h => exact PostX.step p st
  | stuck => exact p
theorem PostI.bindR {γ δ : Type} {W : List Addr → γ → δ → Prop} {Q : Value → Shared → Prop} {Q' : δ → Shared → Prop} {r : Res γ} {f : γ → MH → Res Src} (p : PostI prog w B X μ s Q (r.bind f))
    (k : ∀ v σ1 μ1 v' h1 tk, HRel B μ1 σ1 h1 → Step μ μ1 s.heap h1 → W μ1 v v' → PostI prog w B X μ1 { s with heap := h1, toks := tk } Q (f v σ1) → Q' v' { s with heap := h1, toks := tk }) : Post B X W μ s Q' r := by
  cases r with
  | ok v σ1 => intro μ1 v' h1 tk r1 st hv; exact k v σ1 μ1 v' h1 tk r1 st hv (PostI.step (x := f v σ1) p st)
  | exc c h => exact p
  | stuck => exact p
theorem SE.bindI {m : MExpr} {e : Expr} {Q Q' : Value → Shared → Prop} {f : Val → MH → Res Src} (h : SE n C prog w B sc sm m e) (cx : Cx n B X A env sc sm ρ μ σ s.heap)
    (p : PostI prog w B X μ s Q (((sem C m).E ρ σ).bind f))
    (k : ∀ v σ1 μ1 v' h1 tk, Cx n B X A env sc sm ρ μ1 σ1 h1 → Step μ μ1 s.heap h1 → VRel μ1 v v' → PostI prog w B X μ1 { s with heap := h1, toks := tk } Q (f v σ1) → Q' v' { s with heap := h1, toks := tk }) : wpAny (model prog w) A (eval e env) Q' X.E s :=
  h cx (p.bindR fun v σ1 μ1 v' h1 tk r st hv q => k v σ1 μ1 v' h1 tk (cx.step st r) st hv q)

theorem noStar_one {e : Expr} (h : isStar e = false) : NoStar [e] := fun x hx => by rw [List.mem_singleton.mp hx]; exact h
theorem noStar_two {e e' : Expr} (h : isStar e = false) (h' : isStar e' = false) : NoStar [e, e'] := fun x hx => by
  rcases List.mem_cons.mp hx with rfl | hx
  · exact h
  · rw [List.mem_singleton.mp hx]; exact h'

theorem si_range {a : MExpr} {x : Str} {y : Expr} {p1 pos : Pos} (G : GOk g F B mg mb) (h : globK g sc x (.ty "range") = true) (hs : isStar y = false) (ha : SE n C prog w B sc sm a y) : SI n C prog w B sc sm (.irange a) (.Call (.Name x p1) [y] [] pos) :=
  ⟨fun _ _ => rfl, fun {env ρ σ μ s A X Q} cx p => call_bi G h (G.ty x _ (globK_split h).2.2) (.inl ⟨_, rfl⟩) cx (noStar_one hs) (one_spliced hs (ha.bindI cx p fun v σ1 μ1 v' h1 tk cx1 _ hv q => call_range1 cx1.rel hv q))⟩
theorem si_range2 {a b : MExpr} {x : Str} {y z : Expr} {p1 pos : Pos} (G : GOk g F B mg mb) (h : globK g sc x (.ty "range") = true) (hs : isStar y = false) (hs' : isStar z = false) (ha : SE n C prog w B sc sm a y) (hb : SE n C prog w B sc sm b z) : SI n C prog w B sc sm (.irange2 a b) (.Call (.Name x p1) [y, z] [] pos) :=
  ⟨fun _ _ => rfl, fun {env ρ σ μ s A X Q} cx p => call_bi G h (G.ty x _ (globK_split h).2.2) (.inl ⟨_, rfl⟩) cx (noStar_two hs hs') (two_spliced hs hs' (ha.bindI cx p fun v σ1 μ1 v' h1 tk cx1 _ hv q => hb.bindI cx1 q fun u σ2 μ2 u' h2 tk2 cx2 st2 hu q2 => call_range2 cx2.rel (hv.mono st2.pre) hu q2))⟩

theorem src_list {i : Nat} {a : Addr} {xs : List Val} {ck : MH → Bool} {Q : Value → Shared → Prop} (rel : HRel B μ σ s.heap) (ea : μ[i]? = some a) (hq : seqOf σ i = some (true, xs)) (hck : ∀ σ', ck σ' = true → seqOf σ' i = some (true, xs)) (h0 : ck σ = true)
    (p : PostI prog w B X μ s Q (.ok (xs, ck) σ)) : wpAny (model prog w) A (pyIter (.ref a)) Q E s := by
  obtain ⟨l, ys, m, hy, gg⟩ := rel.seq ea hq
  refine wpAny_pyIter_list (isList_of gg) (p μ _ (fun j h => h.IsListIter s.heap.objs.size a j) _ _ (rel.grow (push_keep _ _)) (Step.grow (push_keep _ _)) rel.fresh rel.freshB (size_none _) (iter_list ea hck) ⟨_, Heap.get?_push_size _ rfl, rfl, rfl⟩ h0 l)

theorem si_obj {a : MExpr} {e : Expr} (hset : ∀ env x, foldedSetIterable e env x = pure x) (ha : SE n C prog w B sc sm a e) : SI n C prog w B sc sm (.iobj a) e :=
  ⟨hset, fun {env ρ σ μ s A X Q} cx p => ha.bindI cx p fun v σ1 μ1 v' h1 tk cx1 _ hv q => by
    cases v with
    | ref i =>
      obtain ⟨ad, ea, rfl⟩ := hv
      cases hx : σ1[i]? with
      | none => simp only [srcOf, hx] at q; exact q.elim
      | some o =>
        cases o with
        | list xs =>
          simp only [srcOf, hx] at q
          exact src_list (s := { s with heap := h1, toks := tk }) cx1.rel ea (by unfold seqOf; rw [hx]) (fun σ' c => by unfold seqOf; rw [of_decide_eq_true c]) (decide_eq_true hx) q
        | ro xs =>
          simp only [srcOf, hx] at q
          exact src_list (s := { s with heap := h1, toks := tk }) cx1.rel ea (by unfold seqOf; rw [hx]) (fun σ' c => by unfold seqOf; rw [of_decide_eq_true c]) (decide_eq_true hx) q
        | _ => simp only [srcOf, hx] at q; exact q.elim
    | str x =>
      obtain ⟨l, t, rfl⟩ := hv
      have q : PostI prog w B X μ1 { s with heap := h1, toks := tk } Q (Res.opt (if x.all (fun c => decide (c < 128)) then some (x.map fun c => .str [c], fun _ => true) else none) σ1) := q
      split at q
      · rename_i ha
        refine wpAny_pyIter_ascii (s := { s with heap := h1, toks := tk }) (by simpa using ha) (q μ1 _ (fun j h => h.IsStrIter h1.objs.size "str_ascii_iterator" ⟨x.toArray⟩ t j) _ _ (cx1.rel.grow (push_keep _ _)) (Step.grow (push_keep _ _)) cx1.rel.fresh cx1.rel.freshB (size_none _) iter_str ⟨_, Heap.get?_push_size _ rfl, rfl, rfl⟩ rfl (by rw [List.length_map]; exact l))
      · exact q.elim
    | _ => exact q.elim⟩

end
end Mine


-- part MiniComp
set_option maxRecDepth 4000
set_option linter.unusedVariables false
namespace Mine
open PySem

theorem Step.transX {μ μ' μ'' : List Addr} {h h' h'' : Heap} {P : Addr → Prop} (s : Step μ μ' h h') (pre : μ' <+: μ'') (keep : ∀ b o, b ∉ μ' → ¬ P b → h'.get? b = some o → h''.get? b = some o) (fresh : ∀ b, b ∈ μ'' → b ∉ μ' → h.get? b = none)
    (hP : ∀ b, P b → h.get? b = none) : Step μ μ'' h h'' :=
  ⟨s.pre.trans pre, fun b o n e => look_keep (fun o' => keep b o' (s.notMemL n e) (fun q => by obtain ⟨o2, e2, _⟩ := look_elim e; rw [hP b q] at e2; cases e2)) (s.keep b o n e), fun b x y => by
    by_cases q : b ∈ μ'
    · exact s.fresh b q y
    · exact fresh b x q⟩

/-- the cells that a comprehension's block takes along -/
noncomputable def clos (env : Env) : List (Str × NameKind) → List (Str × Addr) → List (Str × Addr)
  | [], acc => acc
  | (n, k) :: r, acc => clos env r (if k == .free then (match env.cells.lookup n with | some c => (n, c) :: acc | none => acc) else acc)

theorem closureFor_of {sc : Scope} {env : Env} (h : ∀ p ∈ sc.names, p.2 = .free → ∃ c, env.cells.lookup p.1 = some c) : closureFor sc env = pure (clos env sc.names []) := by
  have key : ∀ (l : List (Str × NameKind)) (acc : List (Str × Addr)), (∀ p ∈ l, p.2 = .free → ∃ c, env.cells.lookup p.1 = some c) →
      (forIn l acc fun (x : Str × NameKind) (cs : List (Str × Addr)) => (match x with
        | (name, kind) => if (kind == .free) = true then do let c ← cellOf env name; pure (ForInStep.yield ((name, c) :: cs)) else pure (ForInStep.yield cs) : Sem (ForInStep (List (Str × Addr))))) = pure (clos env l acc) := fun l => by
    induction l with
    | nil => intro acc _; rfl
    | cons p r ih =>
      intro acc hl
      obtain ⟨nm, k⟩ := p
      rw [List.forIn_cons]
      by_cases hk : (k == .free) = true
      · obtain ⟨c, hc⟩ := hl (nm, k) (.head _) (by simpa using hk)
        simp only at hc
        simp only [hk, if_true, clos, hc]
        have : cellOf env nm = pure c := by unfold cellOf; rw [hc]
        rw [this]
        exact ih ((nm, c) :: acc) fun p hp => hl p (.tail _ hp)
      · simp only [hk, if_false, clos]
        exact ih acc fun p hp => hl p (.tail _ hp)
  have := key sc.names [] h
  have e := congrArg (fun m : Sem (List (Str × Addr)) => m >>= fun cs => pure cs) this
  exact Eq.trans (by rfl) e

theorem clos_lookup {env : Env} : ∀ (l : List (Str × NameKind)) (acc : List (Str × Addr)) (x : Str) (c : Addr), (clos env l acc).lookup x = some c → (∃ k, (x, k) ∈ l ∧ k = .free ∧ env.cells.lookup x = some c) ∨ acc.lookup x = some c
  | [], acc, x, c, h => .inr h
  | (nm, k) :: r, acc, x, c, h => by
    rw [clos] at h
    rcases clos_lookup r _ x c h with ⟨k', m, e, q⟩ | q
    · exact .inl ⟨k', .tail _ m, e, q⟩
    · split at q
      · rename_i hk
        split at q
        · rename_i c' hc
          rw [List.lookup_cons] at q
          split at q
          · rename_i hx; cases q; rw [beq_iff_eq] at hx; subst hx; exact .inl ⟨k, .head _, by simpa using hk, hc⟩
          · exact .inr q
        · exact .inr q
      · exact .inr q
theorem clos_some {env : Env} {x : Str} : ∀ (l : List (Str × NameKind)) (acc : List (Str × Addr)), ((x, .free) ∈ l ∧ (∃ c, env.cells.lookup x = some c)) ∨ (∃ c, acc.lookup x = some c) → ∃ c, (clos env l acc).lookup x = some c
  | [], acc, h => h.elim (fun q => nomatch q.1) id
  | (nm, k) :: r, acc, h => by
    rw [clos]
    refine clos_some r _ ?_
    by_cases hx : (x == nm) = true
    · rw [beq_iff_eq] at hx; subst hx
      rcases h with ⟨m, c, hc⟩ | ⟨c, hc⟩
      · by_cases hk : (k == .free) = true
        · exact .inr ⟨c, by simp [hk, hc, List.lookup_cons]⟩
        · rcases List.mem_cons.mp m with q | q
          · cases q; exact absurd rfl hk
          · exact .inl ⟨q, c, hc⟩
      · refine .inr ?_
        split
        · split
          · rename_i c' _; exact ⟨c', by simp⟩
          · exact ⟨c, hc⟩
        · exact ⟨c, hc⟩
    · have hx' : (x == nm) = false := by simpa using hx
      rcases h with ⟨m, c, hc⟩ | ⟨c, hc⟩
      · rcases List.mem_cons.mp m with q | q
        · cases q; simp at hx
        · exact .inl ⟨q, c, hc⟩
      · refine .inr ⟨c, ?_⟩
        split
        · split
          · rw [List.lookup_cons, hx']; exact hc
          · exact hc
        · exact hc

end Mine


-- part MiniComp2
set_option maxRecDepth 4000
set_option linter.unusedVariables false
namespace Mine
open PySem

theorem lookup_relabel (inner outer : Scope) (x : Str) : (relabelS inner outer).names.lookup x = (inner.names.lookup x).map fun k => if (k == .free && outer.kind == .function && outer.names.lookup x == some .cell) then .cell else k := by
  show (inner.names.map _).lookup x = _
  generalize inner.names = l
  induction l with
  | nil => rfl
  | cons p r ih =>
    obtain ⟨n, k⟩ := p
    rw [List.map_cons]
    dsimp only
    by_cases hx : (x == n) = true
    · rw [beq_iff_eq] at hx; subst hx
      by_cases hc : (k == NameKind.free && outer.kind == ScopeKind.function && List.lookup x outer.names == some NameKind.cell) = true
      · rw [if_pos hc, List.lookup_cons, List.lookup_cons, beq_self_eq_true, Option.map_some, if_pos hc]
      · rw [if_neg hc, List.lookup_cons, List.lookup_cons, beq_self_eq_true, Option.map_some, if_neg hc]
    · have hx' : (x == n) = false := by simpa using hx
      by_cases hc : (k == NameKind.free && outer.kind == ScopeKind.function && List.lookup n outer.names == some NameKind.cell) = true
      · rw [if_pos hc, List.lookup_cons, List.lookup_cons, hx']; exact ih
      · rw [if_neg hc, List.lookup_cons, List.lookup_cons, hx']; exact ih

theorem mem_of_lookup {α : Type} {x : Str} {v : α} : ∀ {l : List (Str × α)}, l.lookup x = some v → (x, v) ∈ l
  | [], h => by cases h
  | (n, k) :: r, h => by
    rw [List.lookup_cons] at h
    split at h
    · rename_i hx; rw [beq_iff_eq] at hx; subst hx; cases h; exact .head _
    · exact .tail _ (mem_of_lookup h)

/-- the block's frame -/
noncomputable def cenvOf (env : Env) (inner : Scope) (C : Addr) : Env :=
  { scope := relabel inner env, locals := C, globals := env.globals, cells := clos env inner.names [], qual := env.qual, func := none, code := env.code, frame := env.frame, builtins := env.builtins }

section
variable {n : Nat} {prog : Program} {w : World} {B : Heap} {sc inner : Scope} {sm : List (Str × Nat)}
variable {env : Env} {ρ : Rho} {σ : MH} {μ : List Addr} {h : Heap} {A : Around} {x : Str} {i : Nat} {D : Addr}

structure CompOk (inner sc : Scope) (sm : List (Str × Nat)) (x : Str) (i : Nat) : Prop where
  kind : inner.kind = .function
  var : inner.names.lookup x = some .local
  nocell : ∀ p ∈ inner.names, p.2 ≠ .cell
  locs : ∀ p ∈ inner.names, p.2 = .local → inner.names.lookup p.1 = some .local
  free : ∀ p ∈ inner.names, p.2 = .free → sc.names.lookup p.1 = some .cell ∨ sc.names.lookup p.1 = some .free
  only : ∀ p ∈ inner.names, p.2 = .local → p.1 = x ∨ sm.lookup p.1 = none
  slot : ∀ y j, sm.lookup y = some j → j ≠ i

theorem compOk_of (h1 : compScOk inner sc x = true) (h2 : (inner.names.all fun p => p.2 != .local || p.1 == x || (sm.lookup p.1).isNone) = true) (h3 : (sm.all fun p => p.2 != i) = true) : CompOk inner sc sm x i := by
  unfold compScOk at h1
  simp only [Bool.and_eq_true, beq_iff_eq] at h1
  obtain ⟨⟨k, v⟩, al⟩ := h1
  rw [List.all_eq_true] at al h2 h3
  refine ⟨k, v, fun p hp e => ?_, fun p hp e => ?_, fun p hp e => ?_, fun p hp e => ?_, fun y j hy e => ?_⟩
  · have := al p hp; simp [e] at this
  · have := al p hp; simp [e] at this; exact this
  · have := al p hp; simp [e] at this; exact this
  · have := h2 p hp
    simp only [e, bne_self_eq_false, Bool.false_or, Bool.or_eq_true, beq_iff_eq, Option.isNone_iff_eq_none] at this; exact this
  · have := h3 _ (mem_of_lookup hy); simp [e] at this

theorem comp_kind (ok : CompOk inner sc sm x i) (hs : env.scope = sc) (hk : sc.kind = .function) (y : Str) : (cenvOf env inner D).kindOf y = some .local ∧ inner.names.lookup y = some .local ∨
    ((cenvOf env inner D).kindOf y = some .cell ∨ (cenvOf env inner D).kindOf y = some .free) ∧ inner.names.lookup y = some .free ∨ isVar ((cenvOf env inner D).kindOf y) = false := by
  have e : (cenvOf env inner D).kindOf y = (inner.names.lookup y).map fun k => if (k == .free && sc.kind == .function && sc.names.lookup y == some .cell) then .cell else k := by
    have := lookup_relabel inner sc y
    rw [← hs] at this ⊢
    exact this
  rw [e]
  cases hl : inner.names.lookup y with
  | none => exact .inr (.inr rfl)
  | some k =>
    cases k with
    | «local» => exact .inl ⟨rfl, rfl⟩
    | cell => exact absurd rfl (ok.nocell _ (mem_of_lookup hl))
    | free =>
      refine .inr (.inl ⟨?_, rfl⟩)
      simp only [Option.map_some]
      split
      · exact .inl rfl
      · exact .inr rfl
    | globalExplicit => exact .inr (.inr rfl)
    | globalImplicit => exact .inr (.inr rfl)

theorem comp_frm (ok : CompOk inner sc sm x i) (cx : Cx n B X A env sc sm ρ μ σ h) {m : Str → Option Value} (hn : h.Ns D m) (hD : D ∉ μ) (hB : B.get? D = none) (hne : ∀ y c, env.cells.lookup y = some c → c ≠ D) : Frm B (cenvOf env inner D) μ h := by
  have hk : sc.kind = .function := by rw [← cx.scope]; exact cx.frm.kind
  refine ⟨ok.kind, cx.frm.glob, cx.frm.bl, ⟨m, hn⟩, hD, hB, fun y c l => ?_, fun y z c l l' => ?_, fun y hy => ?_⟩
  · rcases clos_lookup _ _ y c l with ⟨k, hm, rfl, q⟩ | q
    · obtain ⟨c1, c2, c3, c4⟩ := cx.frm.cell y c q
      exact ⟨c1, hne y c q, c3, c4⟩
    · cases q
  · rcases clos_lookup _ _ y c l with ⟨k, hm, rfl, q⟩ | q
    · rcases clos_lookup _ _ z c l' with ⟨k', hm', rfl, q'⟩ | q'
      · exact cx.frm.cinj y z c q q'
      · cases q'
    · cases q
  · rcases comp_kind (D := D) ok cx.scope hk y with ⟨k, _⟩ | ⟨_, hl⟩ | k
    · rw [k] at hy; rcases hy with q | q <;> cases q
    · have hm := mem_of_lookup hl
      have hf := ok.free _ hm rfl
      obtain ⟨c, hc⟩ := cx.frm.has y (by rw [cx.kind]; exact hf)
      exact clos_some _ _ (.inl ⟨hm, c, hc⟩)
    · rcases hy with q | q <;> (rw [q] at k; cases k)

theorem comp_vars (ok : CompOk inner sc sm x i) (cx : Cx n B X A env sc sm ρ μ σ h) {m : Str → Option Value} (hn : h.Ns D m) {v : Val} {v' : Value} (hm : m x = some v') (hv : VRel μ v v') : Vars (cenvOf env inner D) ((x, i) :: sm) (ρ.set i (some v)) μ h := by
  have hk : sc.kind = .function := by rw [← cx.scope]; exact cx.frm.kind
  intro y j u hy hl he
  rw [List.lookup_cons] at hl
  by_cases hx : (y == x) = true
  · rw [hx] at hl
    rw [beq_iff_eq] at hx; subst hx
    cases hl
    have hu : u = v := by
      have lt : i < (ρ.set i (some v)).length := (List.getElem?_eq_some_iff.mp he).1
      rw [List.getElem?_set_self (by simpa using lt)] at he
      exact (Option.some.inj (Option.some.inj he)).symm
    subst hu
    rcases comp_kind (D := D) ok cx.scope hk y with ⟨k, _⟩ | ⟨_, k⟩ | k
    · exact ⟨v', .inl ⟨k, m, hn, hm⟩, hv⟩
    · rw [ok.var] at k; cases k
    · rw [k] at hy; cases hy
  · have hx' : (y == x) = false := by simpa using hx
    rw [hx'] at hl
    rw [List.getElem?_set_ne (Ne.symm (ok.slot y j hl))] at he
    rcases comp_kind (D := D) ok cx.scope hk y with ⟨_, k⟩ | ⟨kk, k⟩ | k
    · rcases ok.only _ (mem_of_lookup k) rfl with q | q
      · simp at q; subst q; simp at hx
      · simp only at q; rw [q] at hl; cases hl
    · have hmem := mem_of_lookup k
      have hf := ok.free _ hmem rfl
      simp only at hf
      obtain ⟨u', b, r⟩ := cx.vars y j u (by rw [cx.kind]; rcases hf with q | q <;> rw [q] <;> rfl) hl he
      rcases b with ⟨q, _⟩ | ⟨_, c, hc, hi⟩
      · rw [cx.kind] at q; rcases hf with z | z <;> (rw [z] at q; cases q)
      · refine ⟨u', .inr ⟨kk, c, ?_, hi⟩, r⟩
        obtain ⟨c', hc'⟩ := clos_some (env := env) (x := y) inner.names [] (.inl ⟨hmem, c, hc⟩)
        rcases clos_lookup _ _ y c' hc' with ⟨_, _, _, q⟩ | q
        · rw [hc] at q; cases q; exact hc'
        · cases q
    · rw [k] at hy; cases hy

end
end Mine


-- part MiniComp3
set_option maxRecDepth 4000
set_option linter.unusedVariables false
namespace Mine
open PySem

section
variable {n : Nat} {C : Cf} {prog : Program} {w : World} {B : Heap} {sc inner : Scope} {sm : List (Str × Nat)}
variable {env : Env} {ρ : Rho} {σ₀ : MH} {μ₀ : List Addr} {s : Shared} {A : Around} {X : XE} {x : Str} {i : Nat} {D I Cn : Addr}

noncomputable def TestOk (n : Nat) (C : Cf) (prog : Program) (w : World) (B : Heap) (sc : Scope) (sm : List (Str × Nat)) (cond : MExpr) (ifs : List Expr) : Prop :=
  ∀ {env ρ σ μ} {s : Shared} {A : Around} {X : XE} {Q : Bool → Shared → Prop}, Cx n B X A env sc sm ρ μ σ s.heap → Post B X BRel μ s Q ((sem C cond).T ρ σ) →
    wpAny (model prog w) A (forIn ifs true fun c r => if r = true then do let ok ← isTrue c env (eval c env); pure (ForInStep.yield ok) else pure (ForInStep.yield r)) Q X.E s

theorem test_nil : TestOk n C prog w B sc sm (.const (.bool true)) [] := fun {env ρ σ μ s A X Q} cx p => by
  have p : Post B X BRel μ s Q (.ok true σ) := p
  exact wpAny_pure (p.here' cx.rel rfl)
theorem test_one {cond : MExpr} {c : Expr} (h : ST n C prog w B sc sm cond c) : TestOk n C prog w B sc sm cond [c] := fun {env ρ σ μ s A X Q} cx p => by
  refine wpAny_forIn_list _ (fun l b s' => (l = [c] ∧ b = true ∧ s' = s) ∨ (l = [] ∧ Q b s')) Q (fun y rest b s' hI => ?_) (fun b s' hI => ?_) [c] true (.inl ⟨rfl, rfl, rfl⟩)
  · rcases hI with ⟨e, rfl, rfl⟩ | ⟨e, _⟩
    · cases e
      rw [if_pos rfl]
      refine wpAny_bind (h cx ?_)
      cases q : (sem C cond).T ρ σ with
      | ok b σ1 => rw [q] at p; intro μ' b' h' tk r st hb; exact wpAny_pure (.inr ⟨rfl, p μ' b' h' tk r st hb⟩)
      | exc c h => rw [q] at p; exact p
      | stuck => rw [q] at p; exact p
    · cases e
  · rcases hI with ⟨e, _⟩ | ⟨_, q⟩
    · cases e
    · exact q

noncomputable def CPost (B : Heap) (X : XE) (μ₀ : List Addr) (s : Shared) (D Cn : Addr) (R : Result → Shared → Prop) : Res (List Val) → Prop
  | .ok vs σ' => ∀ μ' h' tk ys k m, HRel B μ' σ' h' → Step μ₀ μ' s.heap h' → D ∉ μ' → Cn ∉ μ' → h'.get? D = some (listObj ys k) → VsRel μ' vs ys → h'.Ns Cn m → R (.ok .next) { s with heap := h', toks := tk }
  | .exc c σ' => ∀ μ' h' tk e base m, HX B μ' σ' base c → StepX μ₀ μ' s.heap base h' → base.StaysIn h' → base.get? e = none → h'.FunFrames base X.l → (∃ a0 fl, h'.TracedAtW base e (.ref (clsK B c)) a0 fl) → Cn ∉ μ' → h'.Ns Cn m → R (.error (.ref e)) { s with heap := h', toks := tk }
  | .stuck => False

theorem comp_loop {elt cond : MExpr} {e1 iter : Expr} {ifs : List Expr} {px pos : Pos} {xs : List Val} {ck : MH → Bool} {At : Nat → Heap → Prop} {μ₁ : List Addr} {σ₁ : MH} {h₁ : Heap} {tk₁ : Nat} {m₁ : Str → Option Value} {k₁ : Nat} {R : Result → Shared → Prop} {res : Res (List Val)}
    (ok : CompOk inner sc sm x i) (cx : Cx n B X A env sc sm ρ μ₀ σ₀ s.heap) (HE : SE n C prog w B (relabelS inner sc) ((x, i) :: sm) elt e1) (HT : TestOk n C prog w B (relabelS inner sc) ((x, i) :: sm) cond ifs)
    (it : Iter prog w B μ₁ xs ck I At) (fr : ∀ b, (b = I ∨ b = D ∨ b = Cn) → s.heap.get? b = none ∧ b ∉ μ₁ ∧ B.get? b = none) (nID : I ≠ D) (nIC : I ≠ Cn) (nDC : D ≠ Cn) (hl : xs.length ≤ lim)
    (r₁ : HRel B μ₁ σ₁ h₁) (st₁ : Step μ₀ μ₁ s.heap h₁) (at₁ : At 0 h₁) (d₁ : h₁.get? D = some (listObj [] k₁)) (n₁ : h₁.Ns Cn m₁) (c₁ : ck σ₁ = true)
    (hres : res = compLoop (compStep (.loc i) (sem C cond).T (sem C elt).E ρ) ck xs σ₁) (P : CPost B X μ₀ s D Cn R res) :
    codeAny (model prog w) A (.compLoop (.ListComp e1 [⟨.Name x px, iter, ifs, 0⟩] inner pos) 0 (.ref I) (.ref D) (cenvOf env inner Cn)) R { s with heap := h₁, toks := tk₁ } := by
  have hk : sc.kind = .function := by rw [← cx.scope]; exact cx.frm.kind
  refine codeAny_compLoop_tests (fun k s' => ∃ j μj σj hj tkj ys nn m done, k = xs.length - j ∧ j ≤ xs.length ∧ s' = { s with heap := hj, toks := tkj } ∧ HRel B μj σj hj ∧ Step μ₀ μj s.heap hj ∧ μ₁ <+: μj ∧ (∀ b, (b = I ∨ b = D ∨ b = Cn) → b ∉ μj) ∧
    At j hj ∧ hj.get? D = some (listObj ys nn) ∧ VsRel μj done ys ∧ hj.Ns Cn m ∧ ck σj = true ∧ (res = (compLoop (compStep (.loc i) (sem C cond).T (sem C elt).E ρ) ck (xs.drop j) σj).bind fun vs h => .ok (done ++ vs) h) ∧ done.length ≤ j)
    (fun k s' hI => ?_) xs.length ⟨0, μ₁, σ₁, h₁, tk₁, [], k₁, m₁, [], by simp, Nat.zero_le _, rfl, r₁, st₁, List.prefix_refl _, fun b q => (fr b q).2.1, at₁, d₁, rfl, n₁, c₁, by rw [hres, List.drop_zero]; cases compLoop (compStep (.loc i) (sem C cond).T (sem C elt).E ρ) ck xs σ₁ <;> rfl, Nat.le_refl _⟩
  obtain ⟨j, μj, σj, hj, tkj, ys, nn, m, done, rfl, hj', rfl, rj, stj, pj, frj, atj, dj, vj, nj, cj, hrj, hdl⟩ := hI
  have hP : ∀ b, (b = I ∨ b = D ∨ b = Cn) → s.heap.get? b = none := fun b q => (fr b q).1
  have hPB : ∀ b, (b = I ∨ b = D ∨ b = Cn) → B.get? b = none := fun b q => (fr b q).2.2
  have handled := cx.ok.handled
  rcases Nat.lt_or_eq_of_le hj' with lt | rfl
  · rw [List.drop_eq_getElem_cons lt] at hrj
    rw [compLoop, compStep, bindTgt] at hrj
    simp only at hrj
    refine it.item j xs[j] A _ μj σj _ _ (List.getElem?_eq_getElem lt) handled pj atj rj cj fun v h1 tk1 hv at1 k1 => ?_
    -- the loop's variable
    have r1 : HRel B μj σj h1 := rj.other (P := fun b => b = I ∨ b = D ∨ b = Cn) (fun b o nb e => k1 b o (fun z => nb (.inl z)) e) frj hPB
    have st1 : Step μ₀ μj s.heap h1 := stj.transX (P := fun b => b = I ∨ b = D ∨ b = Cn) (List.prefix_refl _) (fun b o _ nb e => k1 b o (fun z => nb (.inl z)) e) (fun b x y => absurd x y) hP
    have n1 : h1.Ns Cn m := Ns_at nj fun o e => k1 Cn o (Ne.symm nIC) e
    have d1 : h1.get? D = some (listObj ys nn) := k1 D _ (Ne.symm nID) dj
    have kx : (cenvOf env inner Cn).kindOf x = some .local := by
      rcases comp_kind (D := Cn) ok cx.scope hk x with ⟨k, _⟩ | ⟨_, k⟩ | k
      · exact k
      · rw [ok.var] at k; cases k
      · have : (cenvOf env inner Cn).kindOf x = some .local := by
          show (relabel inner env).names.lookup x = _
          have := lookup_relabel inner env.scope x
          rw [show (relabel inner env).names.lookup x = (relabelS inner env.scope).names.lookup x from rfl, this, ok.var]; rfl
        exact this
    show wpAny (model prog w) A (assign (.Name x px) (cenvOf env inner Cn) v) _ _ { s with heap := h1, toks := tk1 }
    refine wpAny_bind (wpAny_standAt (wpAny_bindName (wpAny_storeName_local kx n1 (fun h2 n2 s2 => ?_) (by show (inner.kind == .class || (inner.kind == .module && _)) = false; rw [ok.kind]; rfl))))
    have r2 : HRel B μj σj h2 := r1.other (P := fun b => b = I ∨ b = D ∨ b = Cn) (fun b o nb e => sameBut_keep s2 b o (fun z => nb (.inr (.inr z))) e) frj hPB
    have st2 : Step μ₀ μj s.heap h2 := st1.transX (P := fun b => b = I ∨ b = D ∨ b = Cn) (List.prefix_refl _) (fun b o _ nb e => sameBut_keep s2 b o (fun z => nb (.inr (.inr z))) e) (fun b x y => absurd x y) hP
    have at2 : At (j + 1) h2 := it.frame _ _ _ at1 fun o e => look_keep (fun o => sameBut_keep s2 I o nIC) e
    have d2 : h2.get? D = some (listObj ys nn) := sameBut_keep s2 D _ nDC d1
    have cxo : Cx n B X A env sc sm ρ μj σj h2 := cx.step st2 r2
    have hne : ∀ y c, env.cells.lookup y = some c → c ≠ Cn := fun y c q z => by
      obtain ⟨⟨v, o, e, _⟩, _⟩ := cx.frm.cell y c q
      rw [z, (fr Cn (.inr (.inr rfl))).1] at e; cases e
    have cx2 : Cx n B ⟨X.l, notedBy (model prog w) A (cenvOf env inner Cn) fun e s' => R (.error e) s'⟩ A (cenvOf env inner Cn) (relabelS inner sc) ((x, i) :: sm) (ρ.set i (some xs[j])) μj σj h2 :=
      ⟨by show relabel inner env = _; rw [← cx.scope]; rfl, cx.ok, comp_frm ok cxo n2 (frj Cn (.inr (.inr rfl))) (hPB Cn (.inr (.inr rfl))) hne, comp_vars ok cxo n2 (by rw [if_pos rfl]) hv, r2, cxo.frames, cxo.fok, cxo.here, fun e he L hL y q => by
        rcases clos_lookup _ _ y L q with ⟨_, _, _, q⟩ | q
        · exact cxo.apart e he L hL y q
        · cases q⟩
    have frm' : ∀ {μ' : List Addr} {h' : Heap}, Step μj μ' h2 h' → ∀ b, (b = I ∨ b = D ∨ b = Cn) → b ∉ μ' := fun st b q => by
      rcases q with rfl | rfl | rfl
      · obtain ⟨o, e⟩ := it.alive _ _ at2; exact st.notMem (frj _ (.inl rfl)) e
      · exact st.notMem (frj _ (.inr (.inl rfl))) d2
      · obtain ⟨o, e⟩ := Ns_alive n2; exact st.notMem (frj _ (.inr (.inr rfl))) e
    have hr : Here A X.l (cenvOf env inner Cn) := ⟨cxo.frames, cxo.here⟩
    -- an exception inside
    have exc : ∀ {c : Nat} {σ' : MH} {μ' : List Addr} {h' : Heap} {tk : Nat}, res = .exc c σ' → Step μj μ' h2 h' → PostX B ⟨X.l, notedBy (model prog w) A (cenvOf env inner Cn) fun e s' => R (.error e) s'⟩ μ' { s with heap := h', toks := tk } c σ' := fun {c σ' μ' h' tk} he sta => by
      rw [he] at P
      exact PostX.ofNoted hr fun μ'' h'' tk' e base r st b1 b2 b3 b4 => P μ'' h'' tk' e base _ r ((st2.trans sta).transX' st) b1 b2 b3 b4 ((frm' (sta.trans st.step)) Cn (.inr (.inr rfl))) (Ns_look n2 fun o e => (sta.trans st.step).keep Cn o (frj Cn (.inr (.inr rfl))) e)
    refine HT (s := { s with heap := h2, toks := tk1 + 1 }) cx2 ?_
    cases g1 : (sem C cond).T (ρ.set i (some xs[j])) σj with
    | stuck => rw [g1] at hrj; rw [hrj] at P; exact P
    | exc c σ' => rw [g1] at hrj; exact exc hrj (Step.refl _ _)
    | ok b σa =>
      rw [g1] at hrj
      simp only [Res.bind_ok] at hrj
      intro μa b' ha tka ra sta hb
      rw [← show b = b' from hb]
      have cxa := cx2.step sta ra
      cases b with
      | true =>
        rw [if_pos rfl] at hrj ⊢
        refine HE (s := { s with heap := ha, toks := tka }) cxa ?_
        cases g3 : (sem C elt).E (ρ.set i (some xs[j])) σa with
        | stuck => rw [g3] at hrj; rw [hrj] at P; exact P
        | exc c σ' => rw [g3] at hrj; exact exc hrj sta
        | ok v2 σ1 =>
          rw [g3] at hrj
          simp only [Res.bind_ok] at hrj
          by_cases f2 : ck σ1 = true
          · rw [if_pos f2, Res.bind_assoc] at hrj
            simp only [Res.bind_ok] at hrj
            intro μb v' hb' tkb rb stb hvb
            have stab : Step μj μb h2 hb' := sta.trans stb
            have db : hb'.get? D = some (listObj ys nn) := stab.get (frj D (.inr (.inl rfl))) d2 (fun _ _ q => by cases q)
            have nb := Ns_look n2 fun o e => stab.keep Cn o (frj Cn (.inr (.inr rfl))) e
            have atb : At (j + 1) hb' := it.frame _ _ _ at2 fun o e => stab.keep I o (frj I (.inl rfl)) e
            have ylen := vj.length
            refine wpAny_list_append_plain (s := { s with heap := hb', toks := tkb }) (items := ys.toArray) ⟨nn, db⟩ (fun h3 p3 s3 => ?_) (by
              have : lim = 1048576 := rfl
              simp only [List.size_toArray, ylen]; show _ ≤ 2 ^ 24; omega)
            obtain ⟨n3, d3⟩ := p3
            have d3' : h3.get? D = some (listObj (ys ++ [v']) n3) := by rw [d3]; simp
            have frb := frm' stab
            refine ⟨xs.length - (j + 1), by omega, j + 1, μb, σ1, h3, tkb, ys ++ [v'], n3, _, done ++ [v2], rfl, lt, rfl,
              rb.other (P := fun b => b = I ∨ b = D ∨ b = Cn) (fun b o nb e => sameBut_keep s3 b o (fun z => nb (.inr (.inl z))) e) frb hPB,
              (st2.trans stab).transX (P := fun b => b = I ∨ b = D ∨ b = Cn) (List.prefix_refl _) (fun b o _ nb e => sameBut_keep s3 b o (fun z => nb (.inr (.inl z))) e) (fun b x y => absurd x y) hP,
              pj.trans stab.pre, frb, it.frame _ _ _ atb fun o e => look_keep (fun o => sameBut_keep s3 I o nID) e, d3', (vj.mono stab.pre).append ⟨v', [], rfl, hvb, rfl⟩, Ns_at nb fun o e => sameBut_keep s3 Cn o (Ne.symm nDC) e, f2, ?_, by simp; omega⟩
            rw [hrj]; simp
          · rw [if_neg f2] at hrj; rw [hrj] at P; exact P.elim
      | false =>
        rw [if_neg (by simp)] at hrj ⊢
        simp only [Res.bind_ok] at hrj
        by_cases f2 : ck σa = true
        · rw [if_pos f2, Res.bind_assoc] at hrj
          simp only [Res.bind_ok] at hrj
          have da : ha.get? D = some (listObj ys nn) := sta.get (frj D (.inr (.inl rfl))) d2 (fun _ _ q => by cases q)
          exact ⟨xs.length - (j + 1), by omega, j + 1, μa, σa, ha, tka, ys, nn, _, done, rfl, lt, rfl, ra, st2.trans sta, pj.trans sta.pre, frm' sta,
            it.frame _ _ _ at2 fun o e => sta.keep I o (frj I (.inl rfl)) e, da, vj.mono sta.pre, Ns_look n2 fun o e => sta.keep Cn o (frj Cn (.inr (.inr rfl))) e, f2, hrj, by omega⟩
        · rw [if_neg f2] at hrj; rw [hrj] at P; exact P.elim
  · rw [List.drop_length] at hrj
    simp only [compLoop, Res.bind_ok, List.append_nil] at hrj
    rw [hrj] at P
    refine it.done A _ μj σj _ _ handled pj atj rj cj fun h1 tk1 k1 => ?_
    exact P μj h1 tk1 ys nn m (rj.other (P := fun b => b = I ∨ b = D ∨ b = Cn) (fun b o nb e => k1 b o (fun z => nb (.inl z)) e) frj hPB)
      (stj.transX (P := fun b => b = I ∨ b = D ∨ b = Cn) (List.prefix_refl _) (fun b o _ nb e => k1 b o (fun z => nb (.inl z)) e) (fun b x y => absurd x y) hP)
      (frj D (.inr (.inl rfl))) (frj Cn (.inr (.inr rfl))) (k1 D _ (Ne.symm nID) dj) vj (Ns_at nj fun o e => k1 Cn o (Ne.symm nIC) e)

end
end Mine


-- part MiniComp4
set_option maxRecDepth 4000
set_option linter.unusedVariables false
namespace Mine
open PySem

section
variable {n : Nat} {C : Cf} {prog : Program} {w : World} {B : Heap} {sc inner : Scope} {sm : List (Str × Nat)}
variable {env : Env} {ρ : Rho} {σ : MH} {μ : List Addr} {s : Shared} {A : Around} {E : Value → Shared → Prop} {X : XE} {x : Str} {i : Nat}

noncomputable def CorePost (prog : Program) (w : World) (B : Heap) (X : XE) (A : Around) (μ : List Addr) (s : Shared) (use : Option (Value → Sem Unit)) (Q : Value → Shared → Prop) : Res (List Val) → Prop
  | .ok vs σ' => ∀ μ' D Cn h' tk ys k m, HRel B μ' σ' h' → Step μ μ' s.heap h' → D ∉ μ' → Cn ∉ μ' → D ≠ Cn → s.heap.get? D = none → s.heap.get? Cn = none → B.get? D = none → B.get? Cn = none → h'.get? D = some (listObj ys k) → VsRel μ' vs ys → h'.Ns Cn m →
      compPost (model prog w) A X.E use Q (.ref D) Cn (.ok .next) { s with heap := h', toks := tk }
  | .exc c σ' => PostX B X μ s c σ'
  | .stuck => False

/-- the block's names go, and the exception on -/
theorem passed_on {c : Nat} {σ' : MH} {μ' : List Addr} {h' base : Heap} {tk : Nat} {e Cn : Addr} {m : Str → Option Value} {use : Option (Value → Sem Unit)} {Q : Value → Shared → Prop} {acc : Value} {fl a0 : Value} (p : PostX B X μ s c σ') (fok : FrOk B X.l μ s.heap)
    (r : HX B μ' σ' base c) (st : StepX μ μ' s.heap base h') (b1 : base.StaysIn h') (b2 : base.get? e = none) (b3 : h'.FunFrames base X.l) (b4 : h'.TracedAtW base e (.ref (clsK B c)) a0 fl) (nC : Cn ∉ μ') (ns : h'.Ns Cn m) (sC : s.heap.get? Cn = none) (bC : B.get? Cn = none) :
    compPost (model prog w) A X.E use Q acc Cn (.error (.ref e)) { s with heap := h', toks := tk } := by
  show ∃ m, h'.Ns Cn m ∧ ∀ h2, Heap.SameBut Cn h' h2 → ∀ cenv : Env, cenv.locals = Cn → wpAny (model prog w) A (passOn "comprehension.variables-let-go" (.ref e) cenv : Sem Value) (fun _ _ => False) X.E { s with heap := h2, toks := tk }
  refine ⟨m, ns, fun h2 sb cenv _ => ?_⟩
  obtain ⟨oe, vs, T, oT, ts, t1, t2, t3, t4, t5, t6, t7, t8, t9⟩ := b4
  obtain ⟨oC, es, ep, eC, dC, _⟩ := ns
  have k : ∀ b o, ¬ b = Cn → h'.get? b = some o → h2.get? b = some o := sameBut_keep sb
  have ne : ¬ e = Cn := fun z => by rw [z, eC] at t1; cases t1; rw [dC] at t3; cases t3
  have nT : ¬ T = Cn := fun z => by rw [z, eC] at t7; cases t7; rw [dC] at t8; cases t8
  have k1 : (cut (· = Cn) base).StaysIn h2 := cut_keep b1 k
  have k2 : h2.FunFrames (cut (· = Cn) base) X.l := funFrames_base (fun b => cut_less b) (funFrames_at b3 fun f hf L o hL eo => k L o (fun z => by
    obtain ⟨_, L', h1, _, _, m', h5⟩ := fok f hf
    rw [hL] at h1; cases h1
    obtain ⟨o', e'⟩ := Ns_alive h5
    rw [z, sC] at e'; cases e') eo)
  have k3 : h2.TracedAtW (cut (· = Cn) base) e (.ref (clsK B c)) a0 fl := ⟨oe, vs, T, oT, ts, k e oe ne t1, t2, t3, t4, cut_less T t5, t6, k T oT nT t7, t8, t9⟩
  unfold passOn
  refine wpAny_bind (wpAny_field (s := { s with heap := h2, toks := tk }) (k e oe ne t1) t3 t4 ?_)
  rw [if_neg (by simp)]
  refine wpAny_bind (fly_set (s := { s with heap := h2, toks := tk }) k1 k2 k3 fun h3 n1 n2 ⟨fl', n3⟩ n4 => wpAny_throw ?_)
  exact p μ' h3 tk e _ ⟨r.1.other (P := fun b => b = Cn) (fun b o nb e => (cut_get (P := fun b => b = Cn) nb).trans e) (fun b z => z ▸ nC) (fun b z => z ▸ bC), r.2⟩ ((st.cut (P := fun b => b = Cn) (fun b z => z ▸ sC) k).hop k1 n1 n4) ⟨n1, cut_less e b2, n2, .inr ⟨a0, fl', n3⟩⟩

/-- a comprehension, up to what is done with its list -/
theorem comp_core {elt cond it : MExpr} {e1 iter : Expr} {ifs : List Expr} {px pos cpos : Pos} {use : Option (Value → Sem Unit)} {Q : Value → Shared → Prop} {xs : List Val} {ck : MH → Bool} {σ₁ : MH}
    (ok : CompOk inner sc sm x i) (cx : Cx n B X A env sc sm ρ μ σ s.heap) (HI : SI n C prog w B sc sm it iter) (HE : SE n C prog w B (relabelS inner sc) ((x, i) :: sm) elt e1) (HT : TestOk n C prog w B (relabelS inner sc) ((x, i) :: sm) cond ifs)
    (hi : (sem C it).I ρ σ = .ok (xs, ck) σ₁) (K : CorePost prog w B X A μ s use Q (compLoop (compStep (.loc i) (sem C cond).T (sem C elt).E ρ) ck xs σ₁)) :
    wpAny (model prog w) A (comprehension (.ListComp e1 [⟨.Name x px, iter, ifs, 0⟩] inner pos) inner env cpos (PySem.newList []) false (eval iter env) use) Q X.E s := by
  refine wpAny_comprehension_free (g := ⟨.Name x px, iter, ifs, 0⟩) (gs := []) rfl (HI.1 env) (closureFor_of fun p hp q => ?_) ok.kind ok.locs ?_
  · exact cx.frm.has p.1 (by rw [cx.kind]; exact ok.free p hp q)
  refine HI.2 cx ?_
  rw [hi]
  intro μ₁ I At h₁ tk₁ r₁ st₁ i1 i2 i3 itr at₁ c₁ l₁
  obtain ⟨oI, eI⟩ := itr.alive _ _ at₁
  have ltI := Heap.lt_size eI
  refine wpAny_newObj_type (wpAny_newFunctionEnv (s := { s with heap := h₁.push _, toks := tk₁ }) ok.nocell (by intro y hy; simp at hy) (fun h₂ hns₂ hsb₂ => ?_) ok.kind)
  dsimp only at hns₂ hsb₂ ⊢
  generalize hH2 : h₁.push { cls := .type "list", dict := none, data := .seq ([] : List Value).toArray } = H2 at hns₂ hsb₂ ⊢
  have hC : H2.objs.size = h₁.objs.size + 1 := by rw [← hH2, Heap.size_push]
  have hDC : h₁.objs.size ≠ H2.objs.size := by rw [hC]; exact Nat.ne_of_lt (Nat.lt_succ_self _)
  have old : ∀ b o, h₁.get? b = some o → h₂.get? b = some o := fun b o e => hsb₂.extBut b o (by rw [hC]; exact Nat.ne_of_lt (Nat.lt_succ_of_lt (Heap.lt_size e))) (Heap.get?_push_of_some _ (hH2 ▸ Heap.get?_push_of_some _ e))
  have hacc : h₂.get? h₁.objs.size = some (listObj [] 0) := hsb₂.extBut _ _ hDC (Heap.get?_push_of_some _ (hH2 ▸ Heap.get?_push_size _ rfl))
  have hnoneC : h₁.get? H2.objs.size = none := by
    cases e : h₁.get? H2.objs.size with
    | none => rfl
    | some o' => exact absurd (Heap.lt_size e) (by rw [hC]; exact Nat.not_lt.mpr (Nat.le_succ _))
  have hs : ∀ b, h₁.get? b = none → b ∉ μ → s.heap.get? b = none := fun b e nm => by
    cases q : s.heap.get? b with
    | none => rfl
    | some o => obtain ⟨o', e', _⟩ := look_elim (st₁.keep b _ nm (look_of q)); rw [e'] at e; cases e
  have r₂ : HRel B μ₁ σ₁ h₂ := r₁.grow old
  have st₂ : Step μ μ₁ s.heap h₂ := st₁.trans (Step.grow old)
  have notmem : ∀ b, h₁.get? b = none → b ∉ μ₁ := fun b e q => by
    obtain ⟨k, hk, e'⟩ := List.getElem_of_mem q
    have ek : μ₁[k]? = some b := by rw [List.getElem?_eq_getElem hk, e']
    have hs : k < σ₁.length := by rw [← r₁.len]; exact hk
    have := r₁.obj k _ _ ek (List.getElem?_eq_getElem hs)
    cases q : σ₁[k] with
    | list xs => rw [q] at this; obtain ⟨_, ys, n, g, _⟩ := this; rw [e] at g; cases g
    | ro xs => rw [q] at this; obtain ⟨_, ys, n, g, _⟩ := this; rw [e] at g; cases g
    | tup xs => rw [q] at this; obtain ⟨_, ys, n, g, _⟩ := this; rw [e] at g; cases g
    | inst fs => rw [q] at this; exact this.elim
  have noB : ∀ b, h₁.get? b = none → B.get? b = none := fun b e => by
    cases q : B.get? b with
    | none => rfl
    | some o => rw [r₁.base b o q] at e; cases e
  have eD := size_none h₁
  have frs : ∀ b, (b = I ∨ b = h₁.objs.size ∨ b = H2.objs.size) → s.heap.get? b = none ∧ b ∉ μ₁ ∧ B.get? b = none := fun b q => by
    rcases q with rfl | rfl | rfl
    · exact ⟨i3, i1, i2⟩
    · exact ⟨hs _ eD fun q => notmem _ eD (st₁.pre.subset q), notmem _ eD, noB _ eD⟩
    · exact ⟨hs _ hnoneC fun q => notmem _ hnoneC (st₁.pre.subset q), notmem _ hnoneC, noB _ hnoneC⟩
  have at₂ : At 0 h₂ := itr.frame _ _ _ at₁ fun o e => look_keep (old I) e
  have nIC : I ≠ H2.objs.size := by rw [hC]; exact Nat.ne_of_lt (Nat.lt_succ_of_lt ltI)
  have loop : codeAny (model prog w) A (.compLoop (.ListComp e1 [⟨.Name x px, iter, ifs, 0⟩] inner pos) 0 (.ref I) (.ref h₁.objs.size) (cenvOf env inner H2.objs.size))
      (compPost (model prog w) A X.E use Q (.ref h₁.objs.size) H2.objs.size) { s with heap := h₂, toks := tk₁ + ([] : List (Str × Value)).length } := by
    refine comp_loop ok cx HE HT itr frs (Nat.ne_of_lt ltI) nIC hDC l₁ r₂ st₂ at₂ hacc hns₂ c₁ rfl ?_
    revert K
    cases compLoop (compStep (.loc i) (sem C cond).T (sem C elt).E ρ) ck xs σ₁ with
    | stuck => exact fun K => K
    | exc c σ' => exact fun K μ' h' tk e base m r st b1 b2 b3 ⟨a0, fl, b4⟩ nC ns => passed_on K cx.fok r st b1 b2 b3 b4 nC ns (frs _ (.inr (.inr rfl))).1 (frs _ (.inr (.inr rfl))).2.2
    | ok vs σ' => exact fun K μ' h' tk ys k m q1 q2 q3 q4 q5 q6 q7 =>
      (show CorePost prog w B X A μ s use Q (.ok vs σ') from K) μ' _ _ h' tk ys k m q1 q2 q3 q4 hDC (frs _ (.inr (.inl rfl))).1 (frs _ (.inr (.inr rfl))).1 (frs _ (.inr (.inl rfl))).2.2 (frs _ (.inr (.inr rfl))).2.2 q5 q6 q7
  exact codeAny_compStart_list loop (itr.again 0 _ _ _ _ at₂ loop)

/-- the value of a comprehension -/
theorem se_comp {elt cond it : MExpr} {e1 iter : Expr} {ifs : List Expr} {px pos : Pos} (ok : CompOk inner sc sm x i) (HI : SI n C prog w B sc sm it iter) (HE : SE n C prog w B (relabelS inner sc) ((x, i) :: sm) elt e1)
    (HT : TestOk n C prog w B (relabelS inner sc) ((x, i) :: sm) cond ifs) : SE n C prog w B sc sm (.comp elt (.loc i) it cond) (.ListComp e1 [⟨.Name x px, iter, ifs, 0⟩] inner pos) := fun {env ρ σ μ s A X Q} cx p => by
  have p : Post B X VRel μ s Q (((sem C it).I ρ σ).bind fun s h => (compLoop (compStep (.loc i) (sem C cond).T (sem C elt).E ρ) s.2 s.1 h).bind newList) := p
  rw [eval_ListComp]
  cases q1 : (sem C it).I ρ σ with
  | exc c h =>
    rw [q1] at p
    refine wpAny_comprehension_free (g := ⟨.Name x px, iter, ifs, 0⟩) (gs := []) rfl (HI.1 env) (closureFor_of fun p hp q => cx.frm.has p.1 (by rw [cx.kind]; exact ok.free p hp q)) ok.kind ok.locs (HI.2 cx ?_)
    rw [q1]; exact p
  | stuck => rw [q1] at p; exact p.elim
  | ok src σ₁ =>
    obtain ⟨xs, ck⟩ := src
    rw [q1] at p
    simp only [Res.bind_ok] at p
    refine comp_core ok cx HI HE HT q1 ?_
    cases q2 : compLoop (compStep (.loc i) (sem C cond).T (sem C elt).E ρ) ck xs σ₁ with
    | exc c h => rw [q2] at p; exact p
    | stuck => rw [q2] at p; exact p
    | ok vs σ' =>
      rw [q2] at p
      simp only [Res.bind_ok] at p
      refine fun μ' D Cn h' tk ys k m r st d1 d2 d3 d4 d5 d6 d7 d8 d9 d10 => ⟨m, d10, fun h'' sb => ?_⟩
      unfold newList at p
      split at p
      · rename_i hl
        refine p (μ' ++ [D]) _ h'' tk ?_ ?_ ⟨D, ?_, rfl⟩
        · have r' : HRel B μ' σ' h'' := r.other (P := fun b => b = Cn) (fun b o nb e => sameBut_keep sb b o nb e) (fun b z => z ▸ d2) (fun b z => z ▸ d7)
          exact r'.alloc (fun b o e => e) d1 d6 ⟨hl, ys, k, sameBut_keep sb D _ d3 d8, d9.mono (List.prefix_append _ _)⟩
        · refine ⟨st.pre.trans (List.prefix_append _ _), fun b o nm e => look_keep (fun o' => sameBut_keep sb b o' (fun z => by obtain ⟨o2, e2, _⟩ := look_elim e; rw [z, d5] at e2; cases e2)) (st.keep b o nm e), fun b hb nm => ?_⟩
          rcases List.mem_append.mp hb with hb | hb
          · exact st.fresh b hb nm
          · rw [List.mem_singleton.mp hb]; exact d4
        · rw [← r.len, List.getElem?_append_right (Nat.le_refl _), Nat.sub_self]; rfl
      · exact p.elim

end
end Mine


-- part MiniAllE
set_option maxRecDepth 4000
set_option linter.unusedVariables false
namespace Mine
open PySem

section
variable {n : Nat} {C : Cf} {prog : Program} {w : World} {B : Heap} {sc : Scope} {sm : List (Str × Nat)} {g : GMap} {F : Nat → Option MFun} {mg mb : Str → Option Value}
variable {env : Env} {ρ : Rho} {σ : MH} {μ : List Addr} {s : Shared} {A : Around} {E : Value → Shared → Prop} {X : XE}

noncomputable def PE (n : Nat) (C : Cf) (prog : Program) (w : World) (B : Heap) (g : GMap) (m : MExpr) : Prop := ∀ sc sm,
  (∀ e, (chk g m sc sm).E e = true → SE n C prog w B sc sm m e ∧ ST n C prog w B sc sm m e ∧ ∀ env x, foldedSetIterable e env x = pure x) ∧
  (∀ es, (chk g m sc sm).Es es = true → SS n C prog w B sc sm m es ∧ NoStar es ∧ ∀ x : Option Expr, x.toList = es → SO n C prog w B sc sm m x) ∧
  (∀ e, (chk g m sc sm).I e = true → SI n C prog w B sc sm m e)

theorem pe_of_E {m : MExpr} {f : Scope → List (Str × Nat) → Expr → Bool} (hm : ∀ sc sm, chk g m sc sm = ckE (f sc sm))
    (h : ∀ sc sm e, f sc sm e = true → SE n C prog w B sc sm m e ∧ ST n C prog w B sc sm m e ∧ ∀ env x, foldedSetIterable e env x = pure x) : PE n C prog w B g m := fun sc sm => by
  rw [hm]
  exact ⟨h sc sm, fun es q => (Bool.false_ne_true q).elim, fun e q => (Bool.false_ne_true q).elim⟩

theorem plain3 {m : MExpr} {e : Expr} (h : SE n C prog w B sc sm m e) (ht : (sem C m).T = tOf (sem C m).E) (he : ∀ env whole, isTrue e env whole = (do let v ← whole; standAt e.pos; holding [v] (truthy v))) (hf : ∀ env x, foldedSetIterable e env x = pure x) :
    SE n C prog w B sc sm m e ∧ ST n C prog w B sc sm m e ∧ ∀ env x, foldedSetIterable e env x = pure x := ⟨h, ST.plain h ht he, hf⟩

theorem allE (G : GOk g F B mg mb) (cs : CS n C prog w g F B) : ∀ m, PE n C prog w B g m := by
  intro m
  induction m with
  | const v =>
    refine pe_of_E (fun _ _ => rfl) fun sc sm e q => ?_
    obtain ⟨c, n', p, rfl, k⟩ := onConst_elim q
    exact plain3 (se_const k) rfl (fun _ _ => rfl) (fun _ _ => rfl)
  | gconst v =>
    refine pe_of_E (fun _ _ => rfl) fun sc sm e q => ?_
    obtain ⟨x, p, rfl, k⟩ := onName_elim q
    exact plain3 (se_gconst G k) rfl (fun _ _ => rfl) (fun _ _ => rfl)
  | loc i =>
    refine pe_of_E (fun _ _ => rfl) fun sc sm e q => ?_
    obtain ⟨x, p, rfl, k⟩ := onName_elim q
    exact plain3 (se_loc k) rfl (fun _ _ => rfl) (fun _ _ => rfl)
  | bin op a b ia ib =>
    refine pe_of_E (fun _ _ => rfl) fun sc sm e q => ?_
    obtain ⟨l, o, r, p, rfl, k⟩ := onBin_elim q
    simp only [Bool.and_eq_true, decide_eq_true_eq] at k
    obtain ⟨⟨rfl, q1⟩, q2⟩ := k
    exact plain3 (se_bin (op := op) ((ia sc sm).1 _ q1).1 ((ib sc sm).1 _ q2).1) rfl (fun _ _ => rfl) (fun _ _ => rfl)
  | un op a ia =>
    refine pe_of_E (fun _ _ => rfl) fun sc sm e q => ?_
    obtain ⟨o, x, p, rfl, k⟩ := onUn_elim q
    simp only [Bool.and_eq_true, decide_eq_true_eq] at k
    obtain ⟨rfl, q1⟩ := k
    obtain ⟨h1, h2, _⟩ := (ia sc sm).1 _ q1
    exact ⟨se_un h1, st_un h1 h2, fun _ _ => rfl⟩
  | and a b ia ib =>
    refine pe_of_E (fun _ _ => rfl) fun sc sm e q => ?_
    obtain ⟨o, es, p, rfl, k⟩ := onBool_elim q
    rw [Bool.and_eq_true] at k
    have qo := isAnd_elim k.1
    subst qo
    obtain ⟨x, y, r, rfl, k'⟩ := cons2_elim k.2
    rw [Bool.and_eq_true] at k'
    obtain ⟨h1, h2, _⟩ := (ia sc sm).1 _ k'.1
    obtain ⟨h3, h4, _⟩ := (ib sc sm).1 _ k'.2
    exact ⟨se_and h1 h3, st_and h2 h4, fun _ _ => rfl⟩
  | or a b ia ib =>
    refine pe_of_E (fun _ _ => rfl) fun sc sm e q => ?_
    obtain ⟨o, es, p, rfl, k⟩ := onBool_elim q
    rw [Bool.and_eq_true] at k
    have qo := isOr_elim k.1
    subst qo
    obtain ⟨x, y, r, rfl, k'⟩ := cons2_elim k.2
    rw [Bool.and_eq_true] at k'
    obtain ⟨h1, h2, _⟩ := (ia sc sm).1 _ k'.1
    obtain ⟨h3, h4, _⟩ := (ib sc sm).1 _ k'.2
    exact ⟨se_or h1 h3, st_or h2 h4, fun _ _ => rfl⟩
  | cmp op a b ia ib =>
    refine pe_of_E (fun _ _ => rfl) fun sc sm e q => ?_
    obtain ⟨l, os, rs, p, rfl, k⟩ := onCmp_elim q
    obtain ⟨o, rfl, k'⟩ := one_elim k
    obtain ⟨r, rfl, k''⟩ := one_elim k'
    simp only [Bool.and_eq_true, decide_eq_true_eq, Bool.not_eq_true'] at k''
    obtain ⟨⟨⟨rfl, q1⟩, q2⟩, q3⟩ := k''
    obtain ⟨h1, _, _⟩ := (ia sc sm).1 _ q1
    obtain ⟨h2, _, _⟩ := (ib sc sm).1 _ q2
    exact ⟨se_cmp q3 h1 h2, st_cmp q3 h1 h2, fun _ _ => rfl⟩
  | cmp2 o₁ o₂ a b c ia ib ic =>
    refine pe_of_E (fun _ _ => rfl) fun sc sm e q => ?_
    obtain ⟨l, os, rs, p, rfl, k⟩ := onCmp_elim q
    obtain ⟨p1, p2, rfl, k'⟩ := two_elim k
    obtain ⟨r1, r2, rfl, k''⟩ := two_elim k'
    simp only [Bool.and_eq_true, decide_eq_true_eq, Bool.not_eq_true'] at k''
    obtain ⟨⟨⟨⟨⟨rfl, rfl⟩, q1⟩, q2⟩, q3⟩, q4⟩ := k''
    obtain ⟨h1, _, _⟩ := (ia sc sm).1 _ q1
    obtain ⟨h2, _, _⟩ := (ib sc sm).1 _ q2
    obtain ⟨h3, _, _⟩ := (ic sc sm).1 _ q3
    exact ⟨se_cmp2 q4 h1 h2 h3, st_cmp2 q4 h1 h2 h3, fun _ _ => rfl⟩
  | isinst t a ia =>
    refine pe_of_E (fun _ _ => rfl) fun sc sm e q => ?_
    obtain ⟨x, p, es, p', rfl, k⟩ := onCall_elim q
    obtain ⟨y, zz, rfl, k'⟩ := two_elim k
    obtain ⟨z, p2, rfl, k''⟩ := onName_elim k'
    simp only [Bool.and_eq_true, Bool.not_eq_true'] at k''
    obtain ⟨⟨⟨q1, q2⟩, q3⟩, q4⟩ := k''
    exact plain3 (se_isinst G q1 q2 q4 ((ia sc sm).1 _ q3).1) rfl (fun _ _ => rfl) (fun _ _ => rfl)
  | call f args ia =>
    refine pe_of_E (fun _ _ => rfl) fun sc sm e q => ?_
    obtain ⟨x, p, es, p', rfl, k⟩ := onCall_elim q
    rw [Bool.and_eq_true] at k
    obtain ⟨h1, h2, _⟩ := (ia sc sm).2.1 _ k.2
    exact plain3 (se_call G cs k.1 h2 h1) rfl (fun _ _ => rfl) (fun _ _ => rfl)
  | bi b args ia =>
    refine pe_of_E (fun _ _ => rfl) fun sc sm e q => ?_
    obtain ⟨x, p, es, p', rfl, k⟩ := onCall_elim q
    rw [Bool.and_eq_true] at k
    obtain ⟨h1, h2, _⟩ := (ia sc sm).2.1 _ k.2
    exact plain3 (se_bi G k.1 h2 h1) rfl (fun _ _ => rfl) (fun _ _ => rfl)
  | lrange a ia => exact pe_of_E (f := fun _ _ _ => false) (fun _ _ => rfl) fun sc sm e q => by cases q
  | meth m o args io ia =>
    refine pe_of_E (fun _ _ => rfl) fun sc sm e q => ?_
    obtain ⟨f, es, pos, rfl, k⟩ := onCallX_elim q
    obtain ⟨eo, nm, apos, rfl, k'⟩ := onAttr_elim k
    simp only [Bool.and_eq_true, decide_eq_true_eq] at k'
    obtain ⟨⟨⟨⟨⟨rfl, q1⟩, q2⟩, q3⟩, q4⟩, q5⟩ := k'
    obtain ⟨h1, h2, _⟩ := (ia sc sm).2.1 _ q2
    exact plain3 (se_meth (m := m) q4 q3 q5 h2 ((io sc sm).1 _ q1).1 h1) rfl (fun _ _ => rfl) (fun _ _ => rfl)
  | lst a ia =>
    refine pe_of_E (fun _ _ => rfl) fun sc sm e q => ?_
    obtain ⟨l, p, rfl, k⟩ := onList_elim q
    exact plain3 (se_lst ((ia sc sm).2.1 _ k).1) rfl (fun _ _ => rfl) (fun _ _ => rfl)
  | tup a ia =>
    refine pe_of_E (fun _ _ => rfl) fun sc sm e q => ?_
    obtain ⟨l, c, p, rfl, k⟩ := onTup_elim q
    exact plain3 (se_tup ((ia sc sm).2.1 _ k).1) rfl (fun _ _ => rfl) (fun _ _ => rfl)
  | sub a b ia ib =>
    refine pe_of_E (fun _ _ => rfl) fun sc sm e q => ?_
    obtain ⟨l, r, p, rfl, k⟩ := onSub_elim q
    simp only [Bool.and_eq_true, Bool.not_eq_true'] at k
    obtain ⟨⟨q1, q2⟩, q3⟩ := k
    exact plain3 (se_sub q3 ((ia sc sm).1 _ q1).1 ((ib sc sm).1 _ q2).1) rfl (fun _ _ => rfl) (fun _ _ => rfl)
  | slice a lo hi ia il ih =>
    refine pe_of_E (fun _ _ => rfl) fun sc sm e q => ?_
    obtain ⟨l, r, p, rfl, k⟩ := onSub_elim q
    obtain ⟨x, y, z, p2, rfl, k'⟩ := onSlice_elim k
    simp only [Bool.and_eq_true, Option.isNone_iff_eq_none] at k'
    obtain ⟨rfl, ⟨q1, q2⟩, q3⟩ := k'
    exact plain3 (se_slice ((ia sc sm).1 _ q1).1 (((il sc sm).2.1 _ q2).2.2 _ rfl) (((ih sc sm).2.1 _ q3).2.2 _ rfl)) rfl (fun _ _ => rfl) (fun _ _ => rfl)
  | srev a ia => exact pe_of_E (f := fun _ _ _ => false) (fun _ _ => rfl) fun sc sm e q => by cases q
  | comp elt tgt it cond ie _ ii ic =>
    refine pe_of_E (fun _ _ => rfl) fun sc sm e q => ?_
    obtain ⟨e1, gs, sc', p, rfl, k⟩ := onComp_elim q
    cases tgt with
    | loc i =>
      obtain ⟨gn, rfl, k'⟩ := one_elim k
      obtain ⟨tg, iter, ifs, a⟩ := gn
      obtain ⟨x, p2, hx, k''⟩ := onName_elim k'
      simp only at hx
      subst hx
      simp only [Bool.and_eq_true, beq_iff_eq] at k''
      obtain ⟨⟨⟨⟨⟨⟨⟨rfl, q1⟩, q2⟩, q3⟩, q4⟩, q5⟩, q6⟩, q7⟩ := k''
      refine plain3 (se_comp (compOk_of q1 q2 q4) ((ii sc sm).2.2 _ q5) ((ie _ _).1 _ q6).1 ?_) rfl (fun _ _ => rfl) (fun _ _ => rfl)
      split at q7
      · rw [isTT_eq q7]; exact test_nil
      · exact test_one ((ic _ _).1 _ q7).2.1
      · cases q7
    | _ => cases k
  | attr o k io => exact pe_of_E (f := fun _ _ _ => false) (fun _ _ => rfl) fun sc sm e q => by cases q
  | nil =>
    intro sc sm
    refine ⟨fun e q => (Bool.false_ne_true q).elim, fun es q => ?_, fun e q => (Bool.false_ne_true q).elim⟩
    have : es = [] := List.isEmpty_iff.mp q
    subst this
    refine ⟨ss_nil, fun e he => (List.not_mem_nil he).elim, fun x hx => ?_⟩
    cases x with
    | none => exact so_nil
    | some e => cases hx
  | cons a b ia ib =>
    intro sc sm
    refine ⟨fun e q => (Bool.false_ne_true q).elim, fun es q => ?_, fun e q => (Bool.false_ne_true q).elim⟩
    cases es with
    | nil => exact (Bool.false_ne_true q).elim
    | cons e r =>
      have q : ((chk g a sc sm).E e && !isStar e && (chk g b sc sm).Es r) = true := q
      simp only [Bool.and_eq_true, Bool.not_eq_true'] at q
      obtain ⟨⟨q1, q2⟩, q3⟩ := q
      obtain ⟨h1, _, _⟩ := (ia sc sm).1 _ q1
      obtain ⟨h2, h3, _⟩ := (ib sc sm).2.1 _ q3
      refine ⟨ss_cons q2 h1 h2, fun y hy => ?_, fun x hx => ?_⟩
      · rcases List.mem_cons.mp hy with rfl | hy
        · exact q2
        · exact h3 y hy
      · cases x with
        | none => cases hx
        | some e' =>
          cases hx
          cases b <;> first | exact so_cons h1 | exact (Bool.false_ne_true q3).elim
  | irange a ia =>
    intro sc sm
    refine ⟨fun e q => (Bool.false_ne_true q).elim, fun es q => (Bool.false_ne_true q).elim, fun e q => ?_⟩
    obtain ⟨x, p, es, p', rfl, k⟩ := onCall_elim q
    obtain ⟨y, rfl, k'⟩ := one_elim k
    simp only [Bool.and_eq_true, Bool.not_eq_true'] at k'
    obtain ⟨⟨q1, q2⟩, q3⟩ := k'
    exact si_range G q1 q3 ((ia sc sm).1 _ q2).1
  | irange2 a b ia ib =>
    intro sc sm
    refine ⟨fun e q => (Bool.false_ne_true q).elim, fun es q => (Bool.false_ne_true q).elim, fun e q => ?_⟩
    obtain ⟨x, p, es, p', rfl, k⟩ := onCall_elim q
    obtain ⟨y, z, rfl, k'⟩ := two_elim k
    simp only [Bool.and_eq_true, Bool.not_eq_true'] at k'
    obtain ⟨⟨⟨⟨q1, q2⟩, q3⟩, q4⟩, q5⟩ := k'
    exact si_range2 G q1 q4 q5 ((ia sc sm).1 _ q2).1 ((ib sc sm).1 _ q3).1
  | iobj a ia =>
    intro sc sm
    refine ⟨fun e q => (Bool.false_ne_true q).elim, fun es q => (Bool.false_ne_true q).elim, fun e q => ?_⟩
    obtain ⟨h1, _, h2⟩ := (ia sc sm).1 _ (show (chk g a sc sm).E e = true from q)
    exact si_obj h2 h1
  | izip a b ia ib =>
    intro sc sm
    exact ⟨fun e q => (Bool.false_ne_true q).elim, fun es q => (Bool.false_ne_true q).elim, fun e q => (Bool.false_ne_true q).elim⟩

end
end Mine


-- part MiniStmt
set_option maxRecDepth 4000
set_option linter.unusedVariables false
namespace Mine
open PySem

noncomputable def Own (env : Env) (b : Addr) : Prop := b = env.locals ∨ ∃ x, env.cells.lookup x = some b

structure StepF (env : Env) (μ μ' : List Addr) (h h' : Heap) : Prop where
  pre : μ <+: μ'
  keep : ∀ b o, b ∉ μ → ¬ Own env b → look h b = some o → look h' b = some o
  fresh : ∀ b, b ∈ μ' → b ∉ μ → h.get? b = none
  own : ∀ b o, Own env b → h.get? b = some o → ∃ o', h'.get? b = some o'

theorem StepF.refl {env : Env} {μ : List Addr} {h : Heap} : StepF env μ μ h h := ⟨List.prefix_refl _, fun _ _ _ _ e => e, fun _ x y => absurd x y, fun _ o _ e => ⟨o, e⟩⟩
theorem StepF.notMem {env : Env} {μ μ' : List Addr} {h h' : Heap} (s : StepF env μ μ' h h') {b : Addr} {o : Obj} (n : b ∉ μ) (e : h.get? b = some o) : b ∉ μ' := fun q => by
  rw [s.fresh b q n] at e; cases e
theorem StepF.alive {env : Env} {μ μ' : List Addr} {h h' : Heap} (s : StepF env μ μ' h h') {b : Addr} {o : Obj} (n : b ∉ μ) (e : h.get? b = some o) : ∃ o', h'.get? b = some o' := by
  by_cases q : Own env b
  · exact s.own b o q e
  · obtain ⟨o', e', _⟩ := look_elim (s.keep b _ n q (look_of e)); exact ⟨o', e'⟩
theorem StepF.trans {env : Env} {μ μ' μ'' : List Addr} {h h' h'' : Heap} (s : StepF env μ μ' h h') (t : StepF env μ' μ'' h' h'') : StepF env μ μ'' h h'' :=
  ⟨s.pre.trans t.pre, fun b o n q e => t.keep b o (by obtain ⟨o', e', _⟩ := look_elim e; exact s.notMem n e') q (s.keep b o n q e), fun b x y => by
    by_cases q : b ∈ μ'
    · exact s.fresh b q y
    · cases e : h.get? b with
      | none => rfl
      | some o => (obtain ⟨o', e'⟩ := s.alive y e; rw [t.fresh b x q] at e'; exact (by cases e')), fun b o q e => let ⟨o', e'⟩ := s.own b o q e; t.own b o' q e'⟩
theorem Step.toF {env : Env} {μ μ' : List Addr} {h h' : Heap} (s : Step μ μ' h h') (ho : ∀ b, Own env b → b ∉ μ) : StepF env μ μ' h h' :=
  ⟨s.pre, fun b o n _ e => s.keep b o n e, s.fresh, fun b o q e => by obtain ⟨o', e', _⟩ := look_elim (s.keep b _ (ho b q) (look_of e)); exact ⟨o', e'⟩⟩
theorem Frm.ownMu {B : Heap} {env : Env} {μ : List Addr} {h : Heap} (f : Frm B env μ h) : ∀ b, Own env b → b ∉ μ := fun b q => by
  rcases q with rfl | ⟨x, q⟩
  · exact f.locMu
  · exact (f.cell x b q).2.2.1
theorem Frm.ownAlive {B : Heap} {env : Env} {μ : List Addr} {h : Heap} (f : Frm B env μ h) : ∀ b, Own env b → ∃ o, h.get? b = some o := fun b q => by
  rcases q with rfl | ⟨x, q⟩
  · obtain ⟨m, n⟩ := f.ns; exact Ns_alive n
  · obtain ⟨⟨v, o, e, _⟩, _⟩ := f.cell x b q; exact ⟨o, e⟩

/-- the way to an exception, the frame's own things aside -/
structure StepXF (env : Env) (μ μ' : List Addr) (h base h' : Heap) : Prop where
  pre : μ <+: μ'
  keep : ∀ b o, b ∉ μ → ¬ Own env b → look h b = some o → look h' b = some o
  fresh : ∀ b, b ∈ μ' → b ∉ μ → h.get? b = none
  based : ∀ b o, b ∉ μ → ¬ Own env b → look h b = some o → (∀ es ep, o.data ≠ .dict es ep) → ∃ o', base.get? b = some o'
theorem StepX.toF {env : Env} {μ μ' : List Addr} {h base h' : Heap} (x : StepX μ μ' h base h') : StepXF env μ μ' h base h' :=
  ⟨x.step.pre, fun b o n _ e => x.step.keep b o n e, x.step.fresh, fun b o n _ e nd => x.based b o n e nd⟩
theorem StepF.transX {env : Env} {μ μ' μ'' : List Addr} {h h' base h'' : Heap} (s : StepF env μ μ' h h') (t : StepXF env μ' μ'' h' base h'') : StepXF env μ μ'' h base h'' :=
  ⟨s.pre.trans t.pre, fun b o n q e => t.keep b o (by obtain ⟨o', e', _⟩ := look_elim e; exact s.notMem n e') q (s.keep b o n q e), fun b x y => by
    by_cases q : b ∈ μ'
    · exact s.fresh b q y
    · cases e : h.get? b with
      | none => rfl
      | some o => (obtain ⟨o', e'⟩ := s.alive y e; rw [t.fresh b x q] at e'; exact (by cases e')),
    fun b o n q e nd => t.based b o (by obtain ⟨o', e', _⟩ := look_elim e; exact s.notMem n e') q (s.keep b o n q e) nd⟩
theorem StepXF.hop {env : Env} {μ μ' : List Addr} {h base h' h'' : Heap} (x : StepXF env μ μ' h base h') (s1 : base.StaysIn h') (s2 : base.StaysIn h'') (u : h'.UpToSlots h'') : StepXF env μ μ' h base h'' :=
  ⟨x.pre, fun b o n q e => look_hop (x.keep b o n q e) (x.based b o n q e) s1 s2 u, x.fresh, x.based⟩
noncomputable def PostXF (B : Heap) (X : XE) (env : Env) (μ : List Addr) (s : Shared) (c : Nat) (σ : MH) : Prop :=
  ∀ μ' h' tk e base, HX B μ' σ base c → StepXF env μ μ' s.heap base h' → ExcAt base X.l (clsK B c) e h' → X.E (.ref e) { s with heap := h', toks := tk }
theorem PostXF.step {B : Heap} {X : XE} {env : Env} {μ μ' : List Addr} {s : Shared} {c : Nat} {σ : MH} {h' : Heap} {tk : Nat} (p : PostXF B X env μ s c σ) (st : StepF env μ μ' s.heap h') : PostXF B X env μ' { s with heap := h', toks := tk } c σ :=
  fun μ'' h'' tk' e base r st' x => p μ'' h'' tk' e base r (st.transX st') x
theorem PostXF.toX {B : Heap} {X : XE} {env : Env} {μ : List Addr} {s : Shared} {c : Nat} {σ : MH} (p : PostXF B X env μ s c σ) : PostX B X μ s c σ := fun μ' h' tk e base r st x => p μ' h' tk e base r st.toF x
theorem PostXF.back {M : Model} {A : Around} {B : Heap} {X : XE} {env : Env} {μ : List Addr} {s : Shared} {c : Nat} {σ : MH} (p : PostXF B X env μ s c σ) (hh : Here A X.l env) : PostXF B ⟨X.l, notedBy M A env (cameBackBy M A env X.E)⟩ env μ s c σ := fun μ' h' tk e base r st x => by
  obtain ⟨hfr, e0, outer, hl, he⟩ := hh
  have x : ExcAt base X.l (clsK B c) e h' := x
  have x' := x
  rw [hl] at x'
  refine fly_note (s := { s with heap := h', toks := tk }) (hl ▸ hfr) he x' fun h2 n1 n2 ⟨a0, fl, n3⟩ n4 => ?_
  exact came_back (s := { s with heap := h2, toks := tk }) n1 n2 n3 fun h3 m1 m2 ⟨fl', m3⟩ m4 => p μ' h3 tk e base r (st.hop x.1 m1 (n4.trans m4)) ⟨m1, x.2.1, hl ▸ m2, .inr ⟨a0, fl', m3⟩⟩

noncomputable def FRel (μ : List Addr) : MFlow → Flow → Prop
  | .next, f => f = .next
  | .ret v, f => ∃ v', f = .ret v' ∧ VRel μ v v'

noncomputable def PostS (B : Heap) (X : XE) (env : Env) (sm : List (Str × Nat)) (μ : List Addr) (s : Shared) (Q : Flow → Shared → Prop) : Res (MFlow × Rho) → Prop
  | .ok p σ' => ∀ μ' f h' tk, HRel B μ' σ' h' → StepF env μ μ' s.heap h' → Frm B env μ' h' → Vars env sm p.2 μ' h' → FRel μ' p.1 f → Q f { s with heap := h', toks := tk }
  | .exc c σ' => PostXF B X env μ s c σ'
  | .stuck => False

theorem PostS.step {B : Heap} {X : XE} {env : Env} {sm : List (Str × Nat)} {μ μ' : List Addr} {s : Shared} {Q : Flow → Shared → Prop} {x : Res (MFlow × Rho)} {h' : Heap} {tk : Nat} (p : PostS B X env sm μ s Q x) (st : StepF env μ μ' s.heap h') : PostS B X env sm μ' { s with heap := h', toks := tk } Q x := by
  cases x with
  | ok v σ' => intro μ'' f h'' tk' r st' f1 f2 f3; exact p μ'' f h'' tk' r (st.trans st') f1 f2 f3
  | exc c h => exact PostXF.step p st
  | stuck => exact p

section
variable (n : Nat) (C : Cf) (W : Nat) (prog : Program) (w : World) (B : Heap) (sc : Scope) (sm : List (Str × Nat))
noncomputable def SX (m : MStmt) (st : Stmt) : Prop :=
  ∀ {env ρ σ μ} {s : Shared} {A : Around} {X : XE} {Q : Flow → Shared → Prop}, Cx n B X A env sc sm ρ μ σ s.heap → PostS B X env sm μ s Q (exec C W m ρ σ) → wpAny (model prog w) A (PySem.exec st env) Q X.E s
noncomputable def SXs (m : MStmt) (l : List Stmt) : Prop :=
  ∀ {env ρ σ μ} {s : Shared} {A : Around} {X : XE} {Q : Flow → Shared → Prop}, Cx n B X A env sc sm ρ μ σ s.heap → PostS B X env sm μ s Q (exec C W m ρ σ) → wpAny (model prog w) A (execs l env) Q X.E s
end

section
variable {n : Nat} {C : Cf} {W : Nat} {prog : Program} {w : World} {B : Heap} {sc : Scope} {sm : List (Str × Nat)} {g : GMap} {F : Nat → Option MFun} {mg mb : Str → Option Value}
variable {env : Env} {ρ : Rho} {σ : MH} {μ : List Addr} {s : Shared} {A : Around} {E : Value → Shared → Prop} {X : XE}

theorem Cx.stepF {μ' : List Addr} {σ' : MH} {ρ' : Rho} {h h' : Heap} (c : Cx n B X A env sc sm ρ μ σ h) (st : StepF env μ μ' h h') (r : HRel B μ' σ' h') (f : Frm B env μ' h') (v : Vars env sm ρ' μ' h') : Cx n B X A env sc sm ρ' μ' σ' h' :=
  ⟨c.scope, c.ok, f, v, r, c.frames, fun e he => by
    obtain ⟨h1, L, h2, h3, h4, m, h5⟩ := c.fok e he
    obtain ⟨o, e0⟩ := Ns_alive h5
    refine ⟨h1, L, h2, st.notMem h3 e0, h4, ?_⟩
    by_cases z : L = env.locals
    · subst z; exact f.ns
    · exact ⟨m, Ns_look h5 fun o e => st.keep L o h3 (fun q => by
        rcases q with q | ⟨x, q⟩
        · exact z q
        · exact c.apart _ he L h2 x q) e⟩, c.here, c.apart⟩

theorem PostS.bindR {γ δ : Type} {V : List Addr → γ → δ → Prop} {Q : Flow → Shared → Prop} {Q' : δ → Shared → Prop} {r : Res γ} {f : γ → MH → Res (MFlow × Rho)} (cx : Cx n B X A env sc sm ρ μ σ s.heap) (p : PostS B X env sm μ s Q (r.bind f))
    (k : ∀ v σ1 μ1 v' h1 tk, Cx n B X A env sc sm ρ μ1 σ1 h1 → Step μ μ1 s.heap h1 → V μ1 v v' → PostS B X env sm μ1 { s with heap := h1, toks := tk } Q (f v σ1) → Q' v' { s with heap := h1, toks := tk }) : Post B X V μ s Q' r := by
  cases r with
  | ok v σ1 => intro μ1 v' h1 tk r1 st hv; exact k v σ1 μ1 v' h1 tk (cx.step st r1) st hv (PostS.step (x := f v σ1) p (st.toF cx.frm.ownMu))
  | exc c h => exact PostXF.toX p
  | stuck => exact p
theorem SE.bindS {m : MExpr} {e : Expr} {Q : Flow → Shared → Prop} {Q' : Value → Shared → Prop} {f : Val → MH → Res (MFlow × Rho)} (h : SE n C prog w B sc sm m e) (cx : Cx n B X A env sc sm ρ μ σ s.heap)
    (p : PostS B X env sm μ s Q (((sem C m).E ρ σ).bind f))
    (k : ∀ v σ1 μ1 v' h1 tk, Cx n B X A env sc sm ρ μ1 σ1 h1 → Step μ μ1 s.heap h1 → VRel μ1 v v' → PostS B X env sm μ1 { s with heap := h1, toks := tk } Q (f v σ1) → Q' v' { s with heap := h1, toks := tk }) : wpAny (model prog w) A (eval e env) Q' X.E s :=
  h cx (p.bindR cx k)
theorem ST.bindS {m : MExpr} {e : Expr} {Q : Flow → Shared → Prop} {Q' : Bool → Shared → Prop} {f : Bool → MH → Res (MFlow × Rho)} (h : ST n C prog w B sc sm m e) (cx : Cx n B X A env sc sm ρ μ σ s.heap)
    (p : PostS B X env sm μ s Q (((sem C m).T ρ σ).bind f))
    (k : ∀ v σ1 μ1 h1 tk, Cx n B X A env sc sm ρ μ1 σ1 h1 → Step μ μ1 s.heap h1 → PostS B X env sm μ1 { s with heap := h1, toks := tk } Q (f v σ1) → Q' v { s with heap := h1, toks := tk }) : wpAny (model prog w) A (isTrue e env (eval e env)) Q' X.E s :=
  h cx (p.bindR cx fun v σ1 μ1 v' h1 tk cx1 st hv q => by rw [← show v = v' from hv]; exact k v σ1 μ1 h1 tk cx1 st q)

/-- where we stand, nothing changed -/
theorem PostS.here {Q : Flow → Shared → Prop} {fl : MFlow} {f : Flow} (cx : Cx n B X A env sc sm ρ μ σ s.heap) (p : PostS B X env sm μ s Q (.ok (fl, ρ) σ)) (hf : FRel μ fl f) : Q f s := p μ f s.heap s.toks cx.rel StepF.refl cx.frm cx.vars hf

noncomputable def SmOk (sm : List (Str × Nat)) : Prop := ∀ x y i, sm.lookup x = some i → sm.lookup y = some i → x = y

theorem own_upd {h h' : Heap} {a : Addr} (q : Own env a) (sb : Heap.SameBut a h h') (al : ∃ o, h'.get? a = some o) : StepF env μ μ h h' :=
  ⟨List.prefix_refl _, fun b o _ nq e => look_keep (fun o' => sameBut_keep sb b o' (fun z => nq (z ▸ q))) e, fun _ x y => absurd x y, fun b o qb e => by
    by_cases z : b = a
    · subst z; exact al
    · exact ⟨o, sameBut_keep sb b o z e⟩⟩

theorem store_sound {x : Str} {i : Nat} {v : Val} {v' : Value} {Q : Unit → Shared → Prop} (inj : SmOk sm) (h : stK sc sm x i = true) (cx : Cx n B X A env sc sm ρ μ σ s.heap) (hv : VRel μ v v')
    (k : ∀ h' tk, HRel B μ σ h' → StepF env μ μ s.heap h' → Frm B env μ h' → Vars env sm (ρ.set i (some v)) μ h' → Q () { s with heap := h', toks := tk }) : wpAny (model prog w) A (storeName env x v') Q E s := by
  unfold stK at h
  simp only [Bool.and_eq_true, Bool.or_eq_true, beq_iff_eq] at h
  obtain ⟨⟨h1, h2⟩, h3⟩ := h
  have slotv : ∀ {u : Val}, (ρ.set i (some v))[i]? = some (some u) → u = v := fun {u} he => by
    have lt : i < (ρ.set i (some v)).length := (List.getElem?_eq_some_iff.mp he).1
    rw [List.getElem?_set_self (by simpa using lt)] at he
    exact (Option.some.inj (Option.some.inj he)).symm
  rcases h1 with hl | hc
  · have kx : env.kindOf x = some .local := by rw [cx.kind]; exact hl
    obtain ⟨m, hn⟩ := cx.frm.ns
    refine wpAny_storeName_local kx hn (fun h' n' sb => ?_) (by rw [cx.frm.kind]; rfl)
    have cellk : ∀ {y : Str} {c : Addr} {o : Obj}, env.cells.lookup y = some c → s.heap.get? c = some o → h'.get? c = some o := fun {y c o} q e => sameBut_keep sb c o (cx.frm.cell y c q).2.1 e
    refine k h' _ (cx.rel.other (P := fun b => b = env.locals) (fun b o nb e => sameBut_keep sb b o nb e) (fun b z => z ▸ cx.frm.locMu) (fun b z => z ▸ cx.frm.locB)) (own_upd (.inl rfl) sb (Ns_alive n')) ?_ ?_
    · refine ⟨cx.frm.kind, cx.frm.glob, cx.frm.bl, ⟨_, n'⟩, cx.frm.locMu, cx.frm.locB, fun y c q => ?_, cx.frm.cinj, cx.frm.has⟩
      obtain ⟨⟨u, iu⟩, c2⟩ := cx.frm.cell y c q
      exact ⟨⟨u, IsCell_at iu fun o e => cellk q e⟩, c2⟩
    · intro y j u hy hj he
      by_cases hxy : y = x
      · subst hxy
        rw [h3] at hj; cases hj
        rw [slotv he]
        exact ⟨v', .inl ⟨kx, _, n', by rw [if_pos rfl]⟩, hv⟩
      · have ne : i ≠ j := fun z => hxy (inj y x i (z ▸ hj) h3)
        rw [List.getElem?_set_ne ne] at he
        obtain ⟨u', b, r⟩ := cx.vars y j u hy hj he
        refine ⟨u', ?_, r⟩
        rcases b with ⟨ky, m', hn', e'⟩ | ⟨ky, c, hc, ic⟩
        · exact .inl ⟨ky, _, n', by rw [if_neg hxy, Ns_uniq hn hn']; exact e'⟩
        · exact .inr ⟨ky, c, hc, IsCell_at ic fun o e => cellk hc e⟩
  · have kx : env.kindOf x = some .cell := by rw [cx.kind]; exact hc
    obtain ⟨c, hcx⟩ := cx.frm.has x (.inl kx)
    obtain ⟨⟨u0, iu0⟩, cl, cm, cb⟩ := cx.frm.cell x c hcx
    refine wpAny_storeName_cell cx.frm.kind kx hcx iu0 fun h' ic sb => ?_
    obtain ⟨m, hn⟩ := cx.frm.ns
    have hn' : h'.Ns env.locals m := Ns_at hn fun o e => sameBut_keep sb _ o (Ne.symm cl) e
    refine k h' s.toks (cx.rel.other (P := fun b => b = c) (fun b o nb e => sameBut_keep sb b o nb e) (fun b z => z ▸ cm) (fun b z => z ▸ cb)) (own_upd (.inr ⟨x, hcx⟩) sb (let ⟨o, e, _⟩ := ic; ⟨o, e⟩)) ?_ ?_
    · refine ⟨cx.frm.kind, cx.frm.glob, cx.frm.bl, ⟨m, hn'⟩, cx.frm.locMu, cx.frm.locB, fun y c' q => ?_, cx.frm.cinj, cx.frm.has⟩
      obtain ⟨⟨u, iu⟩, c2⟩ := cx.frm.cell y c' q
      by_cases z : c' = c
      · subst z; exact ⟨⟨_, ic⟩, c2⟩
      · exact ⟨⟨u, IsCell_at iu fun o e => sameBut_keep sb _ o z e⟩, c2⟩
    · intro y j u hy hj he
      by_cases hxy : y = x
      · subst hxy
        rw [h3] at hj; cases hj
        rw [slotv he]
        exact ⟨v', .inr ⟨.inl kx, c, hcx, ic⟩, hv⟩
      · have ne : i ≠ j := fun z => hxy (inj y x i (z ▸ hj) h3)
        rw [List.getElem?_set_ne ne] at he
        obtain ⟨u', b, r⟩ := cx.vars y j u hy hj he
        refine ⟨u', ?_, r⟩
        rcases b with ⟨ky, m', hn'', e'⟩ | ⟨ky, c', hc', ic'⟩
        · exact .inl ⟨ky, m', Ns_at hn'' fun o e => sameBut_keep sb _ o (Ne.symm cl) e, e'⟩
        · exact .inr ⟨ky, c', hc', IsCell_at ic' fun o e => sameBut_keep sb _ o (fun z => hxy (cx.frm.cinj y x c' hc' (z ▸ hcx))) e⟩

theorem sx_nil : SXs n C W prog w B sc sm .nil [] := fun {env ρ σ μ s A X Q} cx p => by
  have p : PostS B X env sm μ s Q (.ok (.next, ρ) σ) := p
  exact wpAny_execs_nil (p.here cx rfl)
theorem sx_cons {a b : MStmt} {st : Stmt} {r : List Stmt} (ha : SX n C W prog w B sc sm a st) (hb : SXs n C W prog w B sc sm b r) : SXs n C W prog w B sc sm (.cons a b) (st :: r) := fun {env ρ σ μ s A X Q} cx p => by
  have p : PostS B X env sm μ s Q ((exec C W a ρ σ).bind fun p h => match p.1 with | .next => exec C W b p.2 h | .ret v => .ok (.ret v, p.2) h) := p
  refine wpAny_execs_cons (ha cx ?_)
  cases q : exec C W a ρ σ with
  | exc c h => rw [q] at p; exact p
  | stuck => rw [q] at p; exact p
  | ok pr σ1 =>
    obtain ⟨fl, ρ1⟩ := pr
    rw [q] at p
    intro μ1 f h1 tk r1 st1 f1 v1 hf
    cases fl with
    | next =>
      rw [show f = .next from hf]
      exact hb (cx.stepF st1 r1 f1 v1) (PostS.step (x := exec C W b ρ1 σ1) p st1)
    | ret v =>
      obtain ⟨v', rfl, hv⟩ := hf
      exact p μ1 _ h1 tk r1 st1 f1 v1 ⟨v', rfl, hv⟩

theorem sx_if {c : MExpr} {t e : MStmt} {x : Expr} {y z : List Stmt} {pos : Pos} (hc : ST n C prog w B sc sm c x) (ht : SXs n C W prog w B sc sm t y) (he : SXs n C W prog w B sc sm e z) : SX n C W prog w B sc sm (.ifs c t e) (.If x y z pos) := fun {env ρ σ μ s A X Q} cx p =>
  wpAny_If (hc.bindS cx p fun b σ1 μ1 h1 tk cx1 st q => by
    cases b with
    | true => rw [if_pos rfl]; exact ht cx1 q
    | false => rw [if_neg (by simp)]; exact he cx1 q)

theorem sx_ret {e : MExpr} {x : Expr} {pos : Pos} (he : SE n C prog w B sc sm e x) : SX n C W prog w B sc sm (.ret e) (.Return (some x) pos) := fun {env ρ σ μ s A X Q} cx p =>
  wpAny_Return_some (he.bindS cx p fun v σ1 μ1 v' h1 tk cx1 st hv q => PostS.here (s := { s with heap := h1, toks := tk }) cx1 q ⟨v', rfl, hv⟩)
theorem sx_ret0 {pos : Pos} : SX n C W prog w B sc sm (.ret (.const .none)) (.Return none pos) := fun {env ρ σ μ s A X Q} cx p => by
  have p : PostS B X env sm μ s Q (.ok (.ret .none, ρ) σ) := p
  exact wpAny_Return_none (p.here cx ⟨_, rfl, rfl⟩)

theorem interactive_of (cx : Cx n B X A env sc sm ρ μ σ s.heap) : interactive env = false := by
  unfold interactive; rw [cx.frm.kind]; rfl
theorem swaps_none {v : Expr} {line : Nat} (h : isComp v = false) : swapsWith v none line env = pure false := by
  cases v <;> first | rfl | exact (Bool.false_ne_true h.symm).elim
theorem swaps_false {v t : Expr} {line : Nat} (h : isComp v = false) : swapsWith v (some t) line env = pure false := by
  cases v <;> first | rfl | exact (Bool.false_ne_true h.symm).elim
theorem sx_expr {e : MExpr} {x : Expr} {pos : Pos} (h : isComp x = false) (he : SE n C prog w B sc sm e x) : SX n C W prog w B sc sm (.expr e) (.Expr x pos) := fun {env ρ σ μ s A X Q} cx p => by
  rw [exec_Expr env _ _ (interactive_of cx) (swaps_none h)]
  exact wpAny_bind (wpAny_standAt (wpAny_bind (he.bindS cx p fun v σ1 μ1 v' h1 tk cx1 st hv q => wpAny_dropValue (PostS.here (s := { s with heap := h1, toks := tk }) cx1 q rfl))))

theorem sx_assign_plain {i : Nat} {e : MExpr} {x : Str} {v : Expr} {px pos : Pos} (inj : SmOk sm) (hs : stK sc sm x i = true) (he : SE n C prog w B sc sm e v) {env ρ σ μ} {s : Shared} {A : Around} {X : XE} {Q : Flow → Shared → Prop}
    (hw : swapsWith v (some (.Name x px)) pos.line env = pure false) (cx : Cx n B X A env sc sm ρ μ σ s.heap) (p : PostS B X env sm μ s Q (exec C W (.assign i e) ρ σ)) : wpAny (model prog w) A (PySem.exec (.Assign [.Name x px] v pos) env) Q X.E s :=
  wpAny_Assign_Name (he.bindS cx p fun u σ1 μ1 u' h1 tk cx1 st hu q => store_sound inj hs cx1 hu fun h2 tk2 r2 st2 f2 v2 => q μ1 .next h2 tk2 r2 st2 f2 v2 rfl) hw

theorem sx_asub {o i e : MExpr} {eo ei v : Expr} {p1 pos : Pos} (he : SE n C prog w B sc sm e v) (ho : SE n C prog w B sc sm o eo) (hi : SE n C prog w B sc sm i ei) : SX n C W prog w B sc sm (.asub o i e) (.Assign [.Subscript eo ei p1] v pos) := fun {env ρ σ μ s A X Q} cx p => by
  refine wpAny_Assign_Subscript (he.bindS cx p fun u σ1 μ1 u' h1 tk cx1 st1 hu q1 => ho.bindS cx1 q1 fun a σ2 μ2 a' h2 tk2 cx2 st2 ha q2 => hi.bindS cx2 q2 fun b σ3 μ3 b' h3 tk3 cx3 st3 hb q3 => ?_) (by cases v <;> rfl)
  refine asub_sound (s := { s with heap := h3, toks := tk3 }) cx3.rel (ha.mono st3.pre) hb (hu.mono (st2.pre.trans st3.pre)) (q3.bindR cx3 fun _ σ4 μ4 _ h4 tk4 cx4 st4 _ q4 => ?_)
  exact PostS.here (s := { s with heap := h4, toks := tk4 }) cx4 q4 rfl

end
end Mine


-- part MiniLoop
set_option maxRecDepth 4000
set_option linter.unusedVariables false
namespace Mine
open PySem

section
variable {n : Nat} {C : Cf} {W : Nat} {prog : Program} {w : World} {B : Heap} {sc : Scope} {sm : List (Str × Nat)} {g : GMap} {F : Nat → Option MFun} {mg mb : Str → Option Value}
variable {env : Env} {ρ : Rho} {σ : MH} {μ : List Addr} {s : Shared} {A : Around} {E : Value → Shared → Prop} {X : XE}

/-- x = [..]: the list is stored before the block's names go -/
theorem sx_assign_comp {i j : Nat} {elt cond it : MExpr} {e1 iter : Expr} {ifs : List Expr} {x y : Str} {px py pos cpos : Pos} {inner : Scope} (inj : SmOk sm) (hs : stK sc sm y j = true) (ok : CompOk inner sc sm x i) (HI : SI n C prog w B sc sm it iter)
    (HE : SE n C prog w B (relabelS inner sc) ((x, i) :: sm) elt e1) (HT : TestOk n C prog w B (relabelS inner sc) ((x, i) :: sm) cond ifs) :
    SX n C W prog w B sc sm (.assign j (.comp elt (.loc i) it cond)) (.Assign [.Name y py] (.ListComp e1 [⟨.Name x px, iter, ifs, 0⟩] inner cpos) pos) := fun {env ρ σ μ s A X Q} cx p => by
  have hb : ∃ b, swapsWith (.ListComp e1 [⟨.Name x px, iter, ifs, 0⟩] inner cpos) (some (.Name y py)) pos.line env = pure b := ⟨_, rfl⟩
  obtain ⟨b, hb⟩ := hb
  cases b with
  | false => exact sx_assign_plain inj hs (se_comp ok HI HE HT) hb cx p
  | true =>
    have p : PostS B X env sm μ s Q ((((sem C it).I ρ σ).bind fun s h => (compLoop (compStep (.loc i) (sem C cond).T (sem C elt).E ρ) s.2 s.1 h).bind newList).bind fun v h => .ok (.next, ρ.set j (some v)) h) := p
    rw [arm_exec_Assign]
    refine wpAny_bind (wpAny_standAt (wpAny_bind ?_))
    rw [show swapsWithSole [.Name y py] (.ListComp e1 [⟨.Name x px, iter, ifs, 0⟩] inner cpos) pos.line env = pure true from hb]
    refine wpAny_pure ?_
    rw [if_pos rfl]
    refine wpAny_bind ?_
    rw [arm_evalThenUse_ListComp]
    refine wpAny_bind ?_
    cases q1 : (sem C it).I ρ σ with
    | exc c h =>
      rw [q1] at p
      refine wpAny_comprehension_free (g := ⟨.Name x px, iter, ifs, 0⟩) (gs := []) rfl (HI.1 env) (closureFor_of fun p hp q => cx.frm.has p.1 (by rw [cx.kind]; exact ok.free p hp q)) ok.kind ok.locs (HI.2 cx ?_)
      rw [q1]; exact PostXF.toX p
    | stuck => rw [q1] at p; exact p.elim
    | ok src σ₁ =>
      obtain ⟨xs, ck⟩ := src
      rw [q1] at p
      simp only [Res.bind_ok] at p
      refine comp_core ok cx HI HE HT q1 ?_
      cases q2 : compLoop (compStep (.loc i) (sem C cond).T (sem C elt).E ρ) ck xs σ₁ with
      | exc c h => rw [q2] at p; exact PostXF.toX p
      | stuck => rw [q2] at p; exact p
      | ok vs σ' =>
        rw [q2] at p
        simp only [Res.bind_ok] at p
        intro μ' D Cn h' tk ys k m r st d1 d2 d3 d4 d5 d6 d7 d8 d9 d10
        unfold newList at p
        split at p
        · rename_i hl
          have p : PostS B X env sm μ s Q (.ok (.next, ρ.set j (some (.ref σ'.length))) (σ' ++ [.list vs])) := p
          have r' : HRel B (μ' ++ [D]) (σ' ++ [.list vs]) h' := r.alloc (fun b o e => e) d1 d6 ⟨hl, ys, k, d8, d9.mono (List.prefix_append _ _)⟩
          have st' : Step μ (μ' ++ [D]) s.heap h' := by
            refine ⟨st.pre.trans (List.prefix_append _ _), st.keep, fun b hb nm => ?_⟩
            rcases List.mem_append.mp hb with hb | hb
            · exact st.fresh b hb nm
            · rw [List.mem_singleton.mp hb]; exact d4
          have cx' := cx.step st' r'
          have hv : VRel (μ' ++ [D]) (.ref σ'.length) (.ref D) := ⟨D, by rw [← r.len, List.getElem?_append_right (Nat.le_refl _), Nat.sub_self]; rfl, rfl⟩
          show wpAny (model prog w) A (assignAll (.ref D) ((assignEach [.Name y py] env).map (·.2))) _ X.E { s with heap := h', toks := tk }
          show wpAny (model prog w) A (assign (.Name y py) env (.ref D)) _ X.E { s with heap := h', toks := tk }
          refine wpAny_bind (wpAny_standAt (wpAny_bindName (store_sound (s := { s with heap := h', toks := tk }) inj hs cx' hv fun h2 tk2 r2 st2 f2 v2 => ?_)))
          have ownC : ¬ Own env Cn := fun q => by obtain ⟨o, e⟩ := cx.frm.ownAlive Cn q; rw [d5] at e; cases e
          refine ⟨m, Ns_look d10 fun o e => st2.keep Cn o (fun q => by
            rcases List.mem_append.mp q with q | q
            · exact d2 q
            · exact d3 (List.mem_singleton.mp q).symm) ownC e, fun h3 sb => wpAny_pure (wpAny_pure ?_)⟩
          have mC : Cn ∉ μ' ++ [D] := fun q => by
            rcases List.mem_append.mp q with q | q
            · exact d2 q
            · exact d3 (List.mem_singleton.mp q).symm
          have aliveC : ∃ o, h2.get? Cn = some o := by
            obtain ⟨o, e⟩ := Ns_alive d10
            exact st2.alive mC e
          -- the block's names go: no object of ours, none of the frame's
          refine p (μ' ++ [D]) .next h3 tk2 (r2.other (P := fun b => b = Cn) (fun b o nb e => sameBut_keep sb b o nb e) (fun b z => z ▸ mC) (fun b z => z ▸ d7)) ?_ ?_ ?_ rfl
          · have stf := (st'.toF cx.frm.ownMu).trans st2
            exact ⟨stf.pre, fun b o n1 n2 e => look_keep (fun o' => sameBut_keep sb b o' (fun z => by obtain ⟨o2, e2, _⟩ := look_elim e; rw [z, d5] at e2; cases e2)) (stf.keep b o n1 n2 e), stf.fresh, fun b o q e => by
              obtain ⟨o', e'⟩ := stf.own b o q e
              exact ⟨o', sameBut_keep sb b o' (fun z => ownC (z ▸ q)) e'⟩⟩
          · obtain ⟨mm, nn⟩ := f2.ns
            have nl : env.locals ≠ Cn := fun z => ownC (.inl z.symm)
            refine ⟨f2.kind, f2.glob, f2.bl, ⟨mm, Ns_at nn fun o e => sameBut_keep sb _ o nl e⟩, f2.locMu, f2.locB, fun z c q => ?_, f2.cinj, f2.has⟩
            obtain ⟨⟨u, iu⟩, c2⟩ := f2.cell z c q
            exact ⟨⟨u, IsCell_at iu fun o e => sameBut_keep sb _ o (fun t => ownC (.inr ⟨z, t ▸ q⟩)) e⟩, c2⟩
          · intro z jj u hy hj he
            obtain ⟨u', b, rr⟩ := v2 z jj u hy hj he
            exact ⟨u', b.at (fun o e => sameBut_keep sb _ o (fun t => ownC (.inl t.symm)) e) (fun c o q e => sameBut_keep sb _ o (fun t => ownC (.inr ⟨z, t ▸ q⟩)) e), rr⟩
        · exact p.elim

theorem for_loop {i : Nat} {b : MStmt} {x : Str} {px : Pos} {body : List Stmt} {xs : List Val} {ck : MH → Bool} {I : Addr} {At : Nat → Heap → Prop} {μ₁ : List Addr} {σ₁ : MH} {h₁ : Heap} {tk₁ : Nat} {Q : Flow → Shared → Prop} {res : Res (MFlow × Rho)}
    (inj : SmOk sm) (hs : stK sc sm x i = true) (cx : Cx n B X A env sc sm ρ μ σ s.heap) (HB : SXs n C W prog w B sc sm b body) (it : Iter prog w B μ₁ xs ck I At) (i1 : I ∉ μ₁) (i2 : B.get? I = none) (i3 : s.heap.get? I = none)
    (r₁ : HRel B μ₁ σ₁ h₁) (st₁ : Step μ μ₁ s.heap h₁) (at₁ : At 0 h₁) (c₁ : ck σ₁ = true) (hres : res = forLoop (forStep (.loc i) (exec C W b)) ck xs ρ σ₁) (P : PostS B X env sm μ s Q res) :
    codeAny (model prog w) A (.forLoop (.Name x px) (.ref I) body [] env) (fun r s' => match r with | .ok f => Q f s' | .error e => cameBackBy (model prog w) A env X.E e s') { s with heap := h₁, toks := tk₁ } := by
  have ownI : ¬ Own env I := fun q => by obtain ⟨o, e⟩ := cx.frm.ownAlive I q; rw [i3] at e; cases e
  have cx₁ := cx.step st₁ r₁
  refine codeAny_forLoop_any (fun k s' => ∃ j μj ρj σj hj tkj, k = xs.length - j ∧ j ≤ xs.length ∧ s' = { s with heap := hj, toks := tkj } ∧ HRel B μj σj hj ∧ StepF env μ μj s.heap hj ∧ μ₁ <+: μj ∧ I ∉ μj ∧ At j hj ∧ Frm B env μj hj ∧ Vars env sm ρj μj hj ∧ ck σj = true ∧
      res = forLoop (forStep (.loc i) (exec C W b)) ck (xs.drop j) ρj σj)
    (fun k s' hI => ?_) xs.length ⟨0, μ₁, ρ, σ₁, h₁, tk₁, by simp, Nat.zero_le _, rfl, r₁, st₁.toF cx.frm.ownMu, List.prefix_refl _, i1, at₁, cx₁.frm, cx₁.vars, c₁, hres⟩
  obtain ⟨j, μj, ρj, σj, hj, tkj, rfl, hj', rfl, rj, stj, pj, frj, atj, fj, vj, cj, hrj⟩ := hI
  -- a change of the iterator alone
  have keepI : ∀ {h' : Heap}, (∀ b o, b ≠ I → hj.get? b = some o → h'.get? b = some o) → HRel B μj σj h' ∧ Frm B env μj h' ∧ Vars env sm ρj μj h' ∧ StepF env μ μj s.heap h' := fun {h'} k1 => by
    refine ⟨rj.other (P := fun b => b = I) (fun b o nb e => k1 b o nb e) (fun b z => z ▸ frj) (fun b z => z ▸ i2), ?_, ?_, ?_⟩
    · obtain ⟨mm, nn⟩ := fj.ns
      refine ⟨fj.kind, fj.glob, fj.bl, ⟨mm, Ns_at nn fun o e => k1 _ o (fun z => ownI (.inl z.symm)) e⟩, fj.locMu, fj.locB, fun z c q => ?_, fj.cinj, fj.has⟩
      obtain ⟨⟨u, iu⟩, c2⟩ := fj.cell z c q
      exact ⟨⟨u, IsCell_at iu fun o e => k1 _ o (fun t => ownI (.inr ⟨z, t ▸ q⟩)) e⟩, c2⟩
    · intro z jj u hy hj he
      obtain ⟨u', b, rr⟩ := vj z jj u hy hj he
      exact ⟨u', b.at (fun o e => k1 _ o (fun t => ownI (.inl t.symm)) e) (fun c o q e => k1 _ o (fun t => ownI (.inr ⟨z, t ▸ q⟩)) e), rr⟩
    · exact ⟨stj.pre, fun b o n1 n2 e => look_keep (fun o' => k1 b o' (fun z => by obtain ⟨o2, e2, _⟩ := look_elim e; rw [z, i3] at e2; cases e2)) (stj.keep b o n1 n2 e), stj.fresh, fun b o q e => by
        obtain ⟨o', e'⟩ := stj.own b o q e
        exact ⟨o', k1 b o' (fun z => ownI (z ▸ q)) e'⟩⟩
  rcases Nat.lt_or_eq_of_le hj' with lt | rfl
  · rw [List.drop_eq_getElem_cons lt, forLoop] at hrj
    refine it.item j xs[j] A _ μj σj _ _ (List.getElem?_eq_getElem lt) cx.ok.handled pj atj rj cj fun v h1 tk1 hv at1 k1 => ?_
    obtain ⟨r1, fr1, v1, st1⟩ := keepI k1
    show wpAny (model prog w) A (letOwnedTupleGo (.Name x px) (.ref I) v) _ _ { s with heap := h1, toks := tk1 }
    refine wpAny_pure ?_
    show wpAny (model prog w) A (assign (.Name x px) env v) _ _ { s with heap := h1, toks := tk1 }
    have cx1 : Cx n B X A env sc sm ρj μj σj h1 := cx.stepF st1 r1 fr1 v1
    refine wpAny_bind (wpAny_standAt (wpAny_bindName (store_sound (s := { s with heap := h1, toks := tk1 }) inj hs cx1 hv fun h2 tk2 r2 st2 fr2 v2 => ?_)))
    have at2 : At (j + 1) h2 := it.frame _ _ _ at1 fun o e => st2.keep I o frj ownI e
    have st12 := st1.trans st2
    have cx2 : Cx n B X A env sc sm (ρj.set i (some xs[j])) μj σj h2 := cx.stepF st12 r2 fr2 v2
    refine HB (X := ⟨X.l, notedBy (model prog w) A env (cameBackBy (model prog w) A env X.E)⟩) (s := { s with heap := h2, toks := tk2 }) ⟨cx2.scope, cx2.ok, cx2.frm, cx2.vars, cx2.rel, cx2.frames, cx2.fok, cx2.here, cx2.apart⟩ ?_
    have hrj : res = (exec C W b (ρj.set i (some xs[j])) σj).bind fun p h1 => match p.1 with
      | .next => if ck h1 then forLoop (forStep (.loc i) (exec C W b)) ck (xs.drop (j + 1)) p.2 h1 else .stuck
      | .ret v => .ok (.ret v, p.2) h1 := hrj
    cases f1 : exec C W b (ρj.set i (some xs[j])) σj with
    | stuck => rw [f1] at hrj; rw [hrj] at P; exact P
    | exc c σ' =>
      rw [f1] at hrj; rw [hrj] at P
      exact PostXF.back (PostXF.step P st12) ⟨cx2.frames, cx2.here⟩
    | ok pr σ1 =>
      rw [f1] at hrj
      simp only [Res.bind_ok] at hrj
      intro μ3 f h3 tk3 r3 st3 fr3 v3 hf
      have st13 := st12.trans st3
      obtain ⟨oI, eI⟩ := it.alive _ _ at2
      cases hn : pr.1 with
      | next =>
        rw [hn] at hf hrj
        simp only at hrj
        rw [show f = .next from hf]
        by_cases hc : ck σ1 = true
        · rw [if_pos hc] at hrj
          exact ⟨xs.length - (j + 1), by omega, j + 1, μ3, pr.2, σ1, h3, tk3, rfl, lt, rfl, r3, st13, pj.trans st3.pre, st3.notMem frj eI, it.frame _ _ _ at2 fun o e => st3.keep I o frj ownI e, fr3, v3, hc, hrj⟩
        · rw [if_neg hc] at hrj; rw [hrj] at P; exact P.elim
      | ret v' =>
        rw [hn] at hf hrj
        simp only at hrj
        rw [hrj] at P
        obtain ⟨u, rfl, hu⟩ := hf
        exact P μ3 _ h3 tk3 r3 st13 fr3 v3 ⟨u, rfl, hu⟩
  · rw [List.drop_length, forLoop] at hrj
    rw [hrj] at P
    refine it.done A _ μj σj _ _ cx.ok.handled pj atj rj cj fun h1 tk1 k1 => ?_
    obtain ⟨r1, fr1, v1, st1⟩ := keepI k1
    exact wpAny_execs_nil (P μj .next h1 tk1 r1 st1 fr1 v1 rfl)

theorem sx_for {i : Nat} {it : MExpr} {b : MStmt} {x : Str} {px pos : Pos} {iter : Expr} {body : List Stmt} (inj : SmOk sm) (hs : stK sc sm x i = true) (HI : SI n C prog w B sc sm it iter) (HB : SXs n C W prog w B sc sm b body) :
    SX n C W prog w B sc sm (.fors (.loc i) it b) (.For (.Name x px) iter body [] pos) := fun {env ρ σ μ s A X Q} cx p => by
  have p : PostS B X env sm μ s Q (((sem C it).I ρ σ).bind fun s h => forLoop (forStep (.loc i) (exec C W b)) s.2 s.1 ρ h) := p
  refine wpAny_For (HI.2 cx ?_) (HI.1 env)
  cases q1 : (sem C it).I ρ σ with
  | exc c h => rw [q1] at p; exact PostXF.toX p
  | stuck => rw [q1] at p; exact p
  | ok src σ₁ =>
    obtain ⟨xs, ck⟩ := src
    rw [q1] at p
    intro μ₁ I At h₁ tk₁ r₁ st₁ i1 i2 i3 itr at₁ c₁ l₁
    exact for_loop inj hs cx HB itr i1 i2 i3 r₁ st₁ at₁ c₁ rfl p

theorem sx_while {c : MExpr} {b : MStmt} {x : Expr} {body : List Stmt} {pos : Pos} (HC : ST n C prog w B sc sm c x) (HB : SXs n C W prog w B sc sm b body) : SX n C W prog w B sc sm (.whiles c b) (.While x body [] pos) := fun {env ρ σ μ s A X Q} cx p => by
  have p : PostS B X env sm μ s Q (whileLoop (sem C c).T (exec C W b) W ρ σ) := p
  refine wpAny_While ?_
  generalize hres : whileLoop (sem C c).T (exec C W b) W ρ σ = res at p
  refine codeAny_whileLoop (fun k s' => ∃ μj ρj σj hj tkj, s' = { s with heap := hj, toks := tkj } ∧ HRel B μj σj hj ∧ StepF env μ μj s.heap hj ∧ Frm B env μj hj ∧ Vars env sm ρj μj hj ∧ res = whileLoop (sem C c).T (exec C W b) k ρj σj)
      (fun k s' hI => ?_) W ⟨μ, ρ, σ, s.heap, s.toks, rfl, cx.rel, StepF.refl, cx.frm, cx.vars, hres.symm⟩
  obtain ⟨μj, ρj, σj, hj, tkj, rfl, rj, stj, fj, vj, hw⟩ := hI
  cases k with
  | zero => rw [hw] at p; exact (show False from p).elim
  | succ k =>
    rw [whileLoop] at hw
    have cxj : Cx n B X A env sc sm ρj μj σj hj := cx.stepF stj rj fj vj
    have cxn : Cx n B ⟨X.l, notedBy (model prog w) A env (cameBackBy (model prog w) A env X.E)⟩ A env sc sm ρj μj σj hj := ⟨cxj.scope, cxj.ok, cxj.frm, cxj.vars, cxj.rel, cxj.frames, cxj.fok, cxj.here, cxj.apart⟩
    have hh : Here A X.l env := ⟨cx.frames, cx.here⟩
    refine HC (X := ⟨X.l, notedBy (model prog w) A env (cameBackBy (model prog w) A env X.E)⟩) (s := { s with heap := hj, toks := tkj }) cxn ?_
    cases q3 : (sem C c).T ρj σj with
    | exc c h => rw [q3] at hw; rw [hw] at p; exact PostXF.toX (PostXF.back (PostXF.step p stj) hh)
    | stuck => rw [q3] at hw; rw [hw] at p; exact p
    | ok t σ1 =>
      rw [q3] at hw
      simp only [Res.bind_ok] at hw
      intro μ1 t' h1 tk1 r1 st1 ht
      rw [← show t = t' from ht]
      have cx1 := cxn.step st1 r1
      have st01 := stj.trans (st1.toF cxj.frm.ownMu)
      cases t with
      | false =>
        rw [if_neg (by simp)] at hw ⊢
        rw [hw] at p
        exact wpAny_execs_nil (p μ1 .next h1 tk1 r1 st01 cx1.frm cx1.vars rfl)
      | true =>
        rw [if_pos rfl] at hw ⊢
        refine HB (s := { s with heap := h1, toks := tk1 }) cx1 ?_
        cases q4 : exec C W b ρj σ1 with
        | exc c h => rw [q4] at hw; rw [hw] at p; exact PostXF.back (PostXF.step p st01) hh
        | stuck => rw [q4] at hw; rw [hw] at p; exact p
        | ok pr σ2 =>
          rw [q4] at hw
          simp only [Res.bind_ok] at hw
          intro μ2 f h2 tk2 r2 st2 f2 v2 hf
          cases q5 : pr.1 with
          | next =>
            rw [q5] at hw hf
            rw [show f = .next from hf]
            exact ⟨k, Nat.lt_succ_self _, μ2, pr.2, σ2, h2, tk2, rfl, r2, st01.trans st2, f2, v2, hw⟩
          | ret v =>
            rw [q5] at hw hf
            simp only at hw
            rw [hw] at p
            obtain ⟨u, rfl, hu⟩ := hf
            exact p μ2 _ h2 tk2 r2 (st01.trans st2) f2 v2 ⟨u, rfl, hu⟩

end
end Mine


-- part MiniTry
set_option maxRecDepth 4000
set_option linter.unusedVariables false
namespace Mine
open PySem

theorem and_left {a b : Bool} (h : (a && b) = true) : a = true := by cases a; cases h; rfl
theorem and_right {a b : Bool} (h : (a && b) = true) : b = true := by cases a; cases h; exact h
theorem clsName_inj : ∀ {c d : Nat}, c < 9 → d < 9 → clsName c = clsName d → c = d := by
  have : ∀ c : Fin 9, ∀ d : Fin 9, clsName c.1 = clsName d.1 → c = d := by decide +kernel
  intro c d hc hd e
  exact congrArg Fin.val (this ⟨c, hc⟩ ⟨d, hd⟩ e)
theorem ExcCls.named {B : Heap} {c : Nat} (h : ExcCls B c) : c < 9 ∧ ∃ o cd, B.get? (clsK B c) = some o ∧ o.data = .cls cd ∧ cd.name = clsName c := by
  obtain ⟨h1, _, N, q, bs, hdct, sn, sub, ab, col, dd, k0, k1, k2, k3, k5, mN, ho, _⟩ := h
  exact ⟨h1, _, _, ho, rfl, rfl⟩
theorem ExcCls.inj {B : Heap} {c d : Nat} (h : ExcCls B c) (h' : ExcCls B d) (e : clsK B c = clsK B d) : c = d := by
  obtain ⟨h1, o, cd, h2, h3, h4⟩ := h.named
  obtain ⟨h1', o', cd', h2', h3', h4'⟩ := h'.named
  rw [e, h2'] at h2; cases h2
  rw [h3'] at h3; cases h3
  exact clsName_inj h1 h1' (h4.symm.trans h4')
theorem ExcCls.inj0 {B : Heap} {c : Nat} (h : ExcCls B c) (e : clsK B c = clsK B 0) : c = 0 := by
  obtain ⟨h1, o, cd, h2, h3, h4⟩ := h.named
  obtain ⟨_, ⟨o', cd', h2', h3', h4'⟩, _⟩ := h
  rw [e, h2'] at h2; cases h2
  rw [h3'] at h3; cases h3
  exact clsName_inj h1 (by decide) (h4.symm.trans h4')
theorem mro_has {B : Heap} {c k : Nat} (hc : ExcCls B c) (hk : ExcCls B k) : (Value.ref (clsK B c) :: tlK B c).contains (.ref (clsK B k)) = decide (k = c ∨ k = 0) := by
  rw [Bool.eq_iff_iff, List.contains_iff_mem, decide_eq_true_eq, List.mem_cons, tlK, List.mem_append]
  constructor
  · rintro (h | h | h)
    · exact .inl (hk.inj hc (by simpa using h))
    · by_cases z : c = 0
      · rw [if_pos z] at h; cases h
      · rw [if_neg z] at h; exact .inr (hk.inj0 (by simpa using h))
    · simp [bmVE] at h
  · rintro (rfl | rfl)
    · exact .inl rfl
    · by_cases z : c = 0
      · subst z; exact .inl rfl
      · rw [if_neg z]; exact .inr (.inl (.head _))
theorem tlK_has {B : Heap} {c : Nat} {T : String} (h : bmVE.contains (.type T) = true) : (tlK B c).contains (.type T) = true := by
  rw [List.contains_iff_mem] at h ⊢
  exact List.mem_append.mpr (.inr h)

section
variable {M : Model} {A : Around} {E : Value → Shared → Prop} {h B : Heap} {g : Array GenState} {d : Drawn} {t : Nat} {os : OsState} {c k : Nat} {e : Addr} {oe : Obj}

theorem exc_matches {Q : Bool → Shared → Prop} (kk : ∀ b o, B.get? b = some o → h.get? b = some o) (hc : ExcCls B c) (hk : ExcCls B k) (he : h.get? e = some oe) (hcls : oe.cls = .ref (clsK B c))
    (hq : Q (decide (k = c ∨ k = 0)) ⟨h, g, d, t, os⟩) : wpAny M A (excMatches (.ref e) (.ref (clsK B k))) Q E ⟨h, g, d, t, os⟩ := by
  have hm := mro_has hc hk
  obtain ⟨_, _, N, q, bs, hdct, sn, sub, ab, col, dd, k0, k1, k2, k3, k5, mN, hC, _⟩ := hc
  obtain ⟨_, _, N', q', bs', hdct', sn', sub', ab', col', dd', k0', k1', k2', k3', k5', mN', hK, _⟩ := hk
  have hC := kk _ _ hC
  have hK := kk _ _ hK
  have hB : (Value.ref (clsK B k) :: tlK B k).contains (.type "BaseException") = true := by rw [List.contains_cons, tlK_has (by decide), Bool.or_true]
  have f := tc_notTuple
  unfold excMatches
  generalize decide (k = c ∨ k = 0) = b at hm hq
  repeat (first | (with_reducible refine wpAny_loadPart_at he ?_; rw [hcls]) | with_reducible refine wpAny_loadPart_at hK ?_ | (with_reducible refine wpAny_isSubtype_exc hK ?_; rw [hB]) | (with_reducible refine wpAny_isSubtype_exc hC ?_; rw [hm]) | wp_step)
  cases b <;> (wp_walk; exact hq)
end

section
variable {prog : Program} {w : World} {A : Around} {E : Value → Shared → Prop} {s : Shared}

theorem isi_exc {B : Heap} {c : Nat} {e : Addr} {oe : Obj} {Q : Value → Shared → Prop} (kk : ∀ b o, B.get? b = some o → s.heap.get? b = some o) (hc : ExcCls B c) (he : s.heap.get? e = some oe) (hcls : oe.cls = .ref (clsK B c)) (hq : Q (.bool true) s) :
    wpAny (model prog w) A (call (.builtin "isinstance") [.ref e, .type "ValueError"]) Q E s := by
  obtain ⟨_, _, N, q, bs, hdct, sn, sub, ab, col, dd, k0, k1, k2, k3, k5, mN, hC, _⟩ := hc
  have hC := kk _ _ hC
  refine call_isinstance (S := fun _ R s => (s.heap.get? e = some oe ∧ s.heap.get? (clsK B c) = some (excClassObj (clsName c) q (clsK B c) N bs (tlK B c) hdct sn sub ab col dd k0 k1 k2 k3 k5 "ValueError.__new__")) ∧ R (.ok (.ret (.bool true))) s)
    (fun prog w A R s hs => isinstance_outer ?_ (by intro q; cases q)) ⟨⟨he, hC⟩, hq⟩
  obtain ⟨h, gg, dr, tt, os⟩ := s
  obtain ⟨⟨he, hC⟩, hq⟩ := hs
  have hV : (Value.ref (clsK B c) :: tlK B c).contains (.type "ValueError") = true := by rw [List.contains_cons, tlK_has (by decide), Bool.or_true]
  have f : typeOf (.type "ValueError") = pure (.type "type") := by kernel_rfl
  have f2 : (Value.ref (clsK B c) == Value.type "ValueError") = false := rfl
  unfold Builtin.«isinstance.nested»
  repeat (first | (with_reducible refine wpAny_loadPart_at he ?_; rw [hcls]) | (with_reducible refine wpAny_isSubtype_exc hC ?_; rw [hV]) | wp_step)
  all_goals first | exact hq | skip
end

section
variable {n : Nat} {C : Cf} {W : Nat} {prog : Program} {w : World} {B : Heap} {sc : Scope} {sm : List (Str × Nat)} {g : GMap} {F : Nat → Option MFun} {mg mb : Str → Option Value}
variable {env : Env} {ρ : Rho} {σ : MH} {μ : List Addr} {s : Shared} {A : Around} {E : Value → Shared → Prop} {X : XE}

theorem name_glob {x : Str} {i : GI} {pos : Pos} {v : Value} {Q : Value → Shared → Prop} (hg : s.heap.Ns env.globals mg) (hk : env.scope = sc) (hf : env.scope.kind = .function) (h : globK g sc x i = true) (hv : mg x = some v) (hQ : Q v s) : wpAny (model prog w) A (eval (.Name x pos) env) Q E s := by
  obtain ⟨h1, h2, h3⟩ := globK_split h
  exact Calls.Name_function_global hf (by unfold Env.kindOf; rw [hk]; exact h1) (Calls.loadGlobal_global (mg := mg) hg hv hQ) (nameOk_1 h2)
theorem name_built {x : Str} {i : GI} {pos : Pos} {v : Value} {Q : Value → Shared → Prop} (hg : s.heap.Ns env.globals mg) (hb : s.heap.Ns env.builtins mb) (hk : env.scope = sc) (hf : env.scope.kind = .function) (h : globK g sc x i = true) (hv : mg x = none ∧ mb x = some v) (hQ : Q v s) : wpAny (model prog w) A (eval (.Name x pos) env) Q E s := by
  obtain ⟨h1, h2, h3⟩ := globK_split h
  exact Calls.Name_function_global hf (by unfold Env.kindOf; rw [hk]; exact h1) (Calls.loadGlobal_builtin (mg := mg) (mb := mb) hg hv.1 hb hv.2 hQ) (nameOk_1 h2)

/-- raise K('..') -/
theorem sx_raise {c : Nat} {x : Str} {t : Str} {k : Nat} {np p1 cpos pos : Pos} (G : GOk g F B mg mb) (h : globK g sc x (.cls c) = true) : SX n C W prog w B sc sm (.raise c) (.Raise (some (.Call (.Name x np) [.Constant (.str t) k p1] [] cpos)) none pos) := fun {env ρ σ μ s A X Q} cx p => by
  have p : PostXF B X env μ s c σ := p
  obtain ⟨hm, hc⟩ := G.cls x c (globK_split h).2.2
  have ⟨_, _, N, q, bs, hdct, sn, sub, ab, col, dd, k0, k1, k2, k3, k5, mN, hC, hN, hi, hT⟩ := hc
  refine wpAny_Raise_call_subT (nm := clsName c) (q := q) (N := N) (bs := bs) (hdct := hdct) (sn := sn) (sub := sub) (ab := ab) (col := col) (dd := dd) (k0 := k0) (k1 := k1) (k2 := k2) (k3 := k3) (k5 := k5) PySem.F.excBase_ValueError (hbase := tlK_has (c := c) (B := B) (by decide)) cx.ok.handled (noStar_back (noStar_one rfl)) hi (glob_some G h cx hm ⟨rfl, args_eq (noStar_one rfl) (one_spliced rfl (wpAny_Constant_str ?_))⟩)
  have kb : ∀ b o, B.get? b = some o → s.heap.get? b = some o := cx.rel.base
  refine ⟨rfl, by show 1 ≤ sizeLine; decide, kb _ _ hC, Ns_at hN fun o e => kb _ _ e, hT.keeps kb, fun h' e hx => ?_⟩
  let P : Addr → Prop := fun b => ∃ f, f ∈ X.l ∧ f.frame = some b
  have hP : ∀ b, P b → b ∉ μ ∧ B.get? b = none ∧ ∃ m, s.heap.Ns b m := fun b ⟨f, hf, hb⟩ => by
    obtain ⟨_, L, h2, h3, h4, h5⟩ := cx.fok f hf
    rw [hb] at h2; cases h2
    exact ⟨h3, h4, h5⟩
  have hx' : Heap.MadeExcOf s.heap h' e (.ref (clsK B c)) _ := hx
  obtain ⟨t', te, tn, tt⟩ := hx'.there
  refine p μ h' _ e (cut P s.heap) ⟨cx.rel.other (P := P) (fun b o nb e => (cut_get nb).trans e) (fun b z => (hP b z).1) (fun b z => (hP b z).2.1), hc⟩ ?_ ⟨fun b o e => hx'.keeps b o (cut_in b o e), cut_less e hx'.new, cx.fok.fun (fun f L hf hL => cut_none ⟨f, hf, hL⟩) hx'.keeps, .inl ⟨_, _, _, te, rfl, rfl, rfl, rfl⟩⟩
  refine StepX.toF ⟨Step.grow hx'.keeps, fun b o n e nd => ?_⟩
  obtain ⟨o', e', rfl⟩ := look_elim e
  refine ⟨o', (cut_get fun z => ?_).trans e'⟩
  obtain ⟨_, _, m, o2, es, ep, e2, d2, _⟩ := hP b z
  rw [e'] at e2; cases e2
  exact nd es ep (by rw [nrm_data]; exact d2)

/-- statements that bind nothing: what stands in a try -/
noncomputable def SP (n : Nat) (C : Cf) (W : Nat) (prog : Program) (w : World) (B : Heap) (sc : Scope) (sm : List (Str × Nat)) (m : MStmt) (st : Stmt) : Prop :=
  ∀ {env ρ σ μ} {s : Shared} {A : Around} {X : XE} {Q : Flow → Shared → Prop}, Cx n B X A env sc sm ρ μ σ s.heap → Post B X (fun μ p f => p.2 = ρ ∧ FRel μ p.1 f) μ s Q (exec C W m ρ σ) → wpAny (model prog w) A (PySem.exec st env) Q X.E s
noncomputable def SPs (n : Nat) (C : Cf) (W : Nat) (prog : Program) (w : World) (B : Heap) (sc : Scope) (sm : List (Str × Nat)) (m : MStmt) (l : List Stmt) : Prop :=
  ∀ {env ρ σ μ} {s : Shared} {A : Around} {X : XE} {Q : Flow → Shared → Prop}, Cx n B X A env sc sm ρ μ σ s.heap → Post B X (fun μ p f => p.2 = ρ ∧ FRel μ p.1 f) μ s Q (exec C W m ρ σ) → wpAny (model prog w) A (execs l env) Q X.E s

theorem sp_nil : SPs n C W prog w B sc sm .nil [] := fun {env ρ σ μ s A X Q} cx p => wpAny_execs_nil (Post.here' (σ := σ) (v := (MFlow.next, ρ)) cx.rel p ⟨rfl, rfl⟩)
theorem sp_cons {a b : MStmt} {st : Stmt} {r : List Stmt} (ha : SP n C W prog w B sc sm a st) (hb : SPs n C W prog w B sc sm b r) : SPs n C W prog w B sc sm (.cons a b) (st :: r) := fun {env ρ σ μ s A X Q} cx p => by
  refine wpAny_execs_cons (ha cx (Post.bindR (f := fun p h => match p.1 with | .next => exec C W b p.2 h | .ret v => .ok (.ret v, p.2) h) p fun v σ1 μ1 f h1 tk r1 st1 hv q => ?_))
  obtain ⟨fl, ρ1⟩ := v
  obtain ⟨hr, hf⟩ := hv
  have hr : ρ1 = ρ := hr
  subst hr
  cases fl with
  | next => rw [show f = .next from hf]; exact hb (cx.step st1 r1) q
  | ret v =>
    obtain ⟨v', rfl, hv⟩ := hf
    exact Post.here' (s := { s with heap := h1, toks := tk }) (v := (MFlow.ret v, ρ1)) r1 q ⟨rfl, v', rfl, hv⟩
theorem sp_ret {e : MExpr} {x : Expr} {pos : Pos} (he : SE n C prog w B sc sm e x) : SP n C W prog w B sc sm (.ret e) (.Return (some x) pos) := fun {env ρ σ μ s A X Q} cx p =>
  wpAny_Return_some (he.bind cx p fun v σ1 μ1 v' h1 tk cx1 st hv q => Post.here' (s := { s with heap := h1, toks := tk }) (v := (MFlow.ret v, ρ)) cx1.rel q ⟨rfl, v', rfl, hv⟩)
theorem sp_expr {e : MExpr} {x : Expr} {pos : Pos} (h : isComp x = false) (he : SE n C prog w B sc sm e x) : SP n C W prog w B sc sm (.expr e) (.Expr x pos) := fun {env ρ σ μ s A X Q} cx p => by
  rw [exec_Expr env _ _ (interactive_of cx) (swaps_none h)]
  exact wpAny_bind (wpAny_standAt (wpAny_bind (he.bind cx p fun v σ1 μ1 v' h1 tk cx1 st hv q => wpAny_dropValue (Post.here' (s := { s with heap := h1, toks := tk }) (v := (MFlow.next, ρ)) cx1.rel q ⟨rfl, rfl⟩))))
theorem sp_if {c : MExpr} {t e : MStmt} {x : Expr} {y z : List Stmt} {pos : Pos} (hc : ST n C prog w B sc sm c x) (ht : SPs n C W prog w B sc sm t y) (he : SPs n C W prog w B sc sm e z) : SP n C W prog w B sc sm (.ifs c t e) (.If x y z pos) := fun {env ρ σ μ s A X Q} cx p =>
  wpAny_If (hc.bind cx p fun b σ1 μ1 h1 tk cx1 st q => by
    cases b with
    | true => rw [if_pos rfl]; exact ht cx1 q
    | false => rw [if_neg (by simp)]; exact he cx1 q)

theorem allP (G : GOk g F B mg mb) (cs : CS n C prog w g F B) : ∀ m, noAsg m = true → (∀ st, (chkS g sc sm m).S st = true → SP n C W prog w B sc sm m st) ∧ (∀ l, (chkS g sc sm m).Ss l = true → SPs n C W prog w B sc sm m l) := by
  have AE := allE (n := n) (C := C) (prog := prog) (w := w) G cs
  intro m
  induction m with
  | nil =>
    refine fun _ => ⟨fun st q => (Bool.false_ne_true q).elim, fun l q => ?_⟩
    have : l = [] := List.isEmpty_iff.mp q
    subst this; exact @sp_nil _ _ _ _ _ _ _ _
  | cons a b ia ib =>
    intro na
    rw [noAsg, Bool.and_eq_true] at na
    refine ⟨fun st q => (Bool.false_ne_true q).elim, fun l q => ?_⟩
    cases l with
    | nil => exact (Bool.false_ne_true q).elim
    | cons st r =>
      have q : ((chkS g sc sm a).S st && (chkS g sc sm b).Ss r) = true := q
      rw [Bool.and_eq_true] at q
      intro _ _ _ _ _ _ _ _ cx p; exact sp_cons ((ia na.1).1 _ q.1) ((ib na.2).2 _ q.2) cx p
  | expr e =>
    refine fun _ => ⟨fun st q => ?_, fun l q => (Bool.false_ne_true q).elim⟩
    have o := sview_ok st
    have q : (match sview st with | .expr v => (chk g e sc sm).E v && !isComp v | _ => false) = true := q
    generalize sview st = vw at o q
    cases o with
    | expr v pos =>
      have q : ((chk g e sc sm).E v && !isComp v) = true := q
      simp only [Bool.and_eq_true, Bool.not_eq_true'] at q
      intro _ _ _ _ _ _ _ _ cx p; exact sp_expr q.2 ((AE e sc sm).1 _ q.1).1 cx p
    | _ => exact (Bool.false_ne_true q).elim
  | ret e =>
    refine fun _ => ⟨fun st q => ?_, fun l q => (Bool.false_ne_true q).elim⟩
    have o := sview_ok st
    have q : (match sview st with | .ret (some v) => (chk g e sc sm).E v | .ret none => isNC e | _ => false) = true := q
    generalize sview st = vw at o q
    cases o with
    | ret v pos =>
      cases v with
      | some v => intro _ _ _ _ _ _ _ _ cx p; exact sp_ret ((AE e sc sm).1 _ q).1 cx p
      | none =>
        rw [isNC_eq q]
        intro env ρ σ μ s A X Q cx p
        exact wpAny_Return_none (Post.here' (σ := σ) (v := (MFlow.ret .none, ρ)) cx.rel p ⟨rfl, _, rfl, rfl⟩)
    | _ => exact (Bool.false_ne_true q).elim
  | ifs c t e it ie =>
    intro na
    rw [noAsg, Bool.and_eq_true] at na
    refine ⟨fun st q => ?_, fun l q => (Bool.false_ne_true q).elim⟩
    have o := sview_ok st
    have q : (match sview st with | .ifs x y z => (chk g c sc sm).E x && (chkS g sc sm t).Ss y && (chkS g sc sm e).Ss z | _ => false) = true := q
    generalize sview st = vw at o q
    cases o with
    | ifs x y z pos =>
      have q : ((chk g c sc sm).E x && (chkS g sc sm t).Ss y && (chkS g sc sm e).Ss z) = true := q
      simp only [Bool.and_eq_true] at q
      intro _ _ _ _ _ _ _ _ cx p; exact sp_if ((AE c sc sm).1 _ q.1.1).2.1 ((it na.1).2 _ q.1.2) ((ie na.2).2 _ q.2) cx p
    | _ => exact (Bool.false_ne_true q).elim
  | _ => exact fun na => (Bool.false_ne_true na).elim

end
end Mine


-- part MiniTry2
set_option maxRecDepth 4000
set_option linter.unusedVariables false
namespace Mine
open PySem

section
variable {n : Nat} {C : Cf} {W : Nat} {prog : Program} {w : World} {B : Heap} {sc : Scope} {sm : List (Str × Nat)} {g : GMap} {F : Nat → Option MFun} {mg mb : Str → Option Value}
variable {env : Env} {ρ : Rho} {σ : MH} {μ : List Addr} {s : Shared} {A : Around} {E : Value → Shared → Prop} {X : XE}

theorem const_val {v : Val} {c : Const} {k : Nat} {pos : Pos} {Q : Value → Shared → Prop} (h : constIs v c = true) (hQ : ∀ u tk, VRel [] v u → Q u { s with toks := tk }) : wpAny (model prog w) A (eval (.Constant c k pos) env) Q E s := by
  cases v with
  | none =>
    cases c with
    | none => exact wpAny_Constant_none (hQ _ s.toks rfl)
    | _ => exact (Bool.false_ne_true h).elim
  | bool a =>
    cases c with
    | bool b =>
      have h : (a == b) = true := h
      rw [beq_iff_eq] at h; subst h; exact wpAny_Constant_bool (hQ _ s.toks rfl)
    | _ => exact (Bool.false_ne_true h).elim
  | int a =>
    cases c with
    | int b =>
      have h : (a == b) = true := h
      rw [beq_iff_eq] at h; subst h; exact wpAny_Constant_int (hQ _ _ ⟨_, rfl⟩)
    | _ => exact (Bool.false_ne_true h).elim
  | str a =>
    cases c with
    | str b =>
      have h : (decide (b = ⟨a.toArray⟩) && decide (a.length ≤ lim)) = true := h
      simp only [Bool.and_eq_true, decide_eq_true_eq] at h
      obtain ⟨rfl, hl⟩ := h
      exact wpAny_Constant_str (hQ _ _ ⟨hl, _, rfl⟩)
    | _ => exact (Bool.false_ne_true h).elim
  | ref a => exact (Bool.false_ne_true h).elim

/-- what a handler finds -/
structure AtH (B : Heap) (l : List Env) (μ μ' : List Addr) (σ' : MH) (s : Shared) (c : Nat) (e : Addr) (base h' : Heap) : Prop where
  r : HX B μ' σ' base c
  st : StepX μ μ' s.heap base h'
  b1 : base.StaysIn h'
  b2 : base.get? e = none
  b3 : h'.FunFrames base l
  b4 : ∃ a0 fl, h'.TracedAtW base e (.ref (clsK B c)) a0 fl
theorem AtH.land {l : List Env} {μ' : List Addr} {σ' : MH} {c : Nat} {e : Addr} {base h' : Heap} {tk : Nat} {Q : Unit → Shared → Prop} (a : AtH B l μ μ' σ' s c e base h') (k : ∀ h2, AtH B l μ μ' σ' s c e base h2 → Q () { s with heap := h2, toks := tk }) :
    wpAny (model prog w) A (setFlight (.ref e) none) Q E { s with heap := h', toks := tk } := by
  obtain ⟨a0, fl, t⟩ := a.b4
  exact fly_set (s := { s with heap := h', toks := tk }) a.b1 a.b3 t fun h2 n1 n2 ⟨fl', n3⟩ n4 => k h2 ⟨a.r, a.st.hop a.b1 n1 n4, n1, a.b2, n2, a0, fl', n3⟩
theorem AtH.cls {l : List Env} {μ' : List Addr} {σ' : MH} {c : Nat} {e : Addr} {base h' : Heap} (a : AtH B l μ μ' σ' s c e base h') : ∃ oe vs, h'.get? e = some oe ∧ oe.cls = .ref (clsK B c) ∧ oe.data = .fields vs := by
  obtain ⟨a0, fl, oe, vs, _, _, _, h1, h2, h3, _⟩ := a.b4
  exact ⟨oe, vs, h1, h2.1, h3⟩
theorem AtH.old {l : List Env} {μ' : List Addr} {σ' : MH} {c : Nat} {e : Addr} {base h' : Heap} (a : AtH B l μ μ' σ' s c e base h') : ∀ b o, B.get? b = some o → h'.get? b = some o := fun b o q => a.b1 b o (a.r.1.base b o q)

/-- except K: return .. -/
theorem suite_const {l : List Env} {μ' : List Addr} {σ' : MH} {c : Nat} {e : Addr} {base h' : Heap} {tk : Nat} {v : Val} {k : Const} {kn : Nat} {p1 p2 pos : Pos} {Q : Flow → Shared → Prop} {R : Result → Shared → Prop}
    (cx : Cx n B X A env sc sm ρ μ σ s.heap) (a : AtH B l μ μ' σ' s c e base h') (h : constIs v k = true) (p : PostS B X env sm μ s Q (.ok (.ret v, ρ) σ')) (hR : ∀ f s', Q f s' → R (.ok f) s') (A' : Around) :
    codeAny (model prog w) A' (.handlers (.ref e) [.ExceptHandler none none [.Return (some (.Constant k kn p1)) p2] pos] env) R { s with heap := h', toks := tk } := by
  refine codeAny_handlers_suite (a.land fun h2 a2 => wpAny_execs_cons (wpAny_Return_some (const_val h fun u tk' hu => hR _ _ ?_)))
  exact p μ' (.ret u) h2 tk' (a2.r.1.grow a2.b1) (a2.st.step.toF cx.frm.ownMu) (cx.frm.step a2.st.step) (cx.vars.step cx.frm a2.st.step) ⟨u, rfl, hu.mono List.nil_prefix⟩

/-- except K as y: return isinstance(y, ValueError) -/
theorem suite_as {l : List Env} {μ' : List Addr} {σ' : MH} {c : Nat} {e : Addr} {base h' : Heap} {tk : Nat} {y : Str} {ex : Expr} {p2 pos : Pos} {Q : Flow → Shared → Prop} {R : Result → Shared → Prop}
    (G : GOk g F B mg mb) (cx : Cx n B X A env sc sm ρ μ σ s.heap) (a : AtH B l μ μ' σ' s c e base h') (h : asOk g sc sm y ex = true) (p : PostS B X env sm μ s Q (.ok (.ret (.bool true), ρ) σ'))
    (hR : ∀ f s', wpAny (model prog w) A (do bindName env y .none; unbindBehindTheSuite env y pos) (fun _ s₃ => Q f s₃) X.E s' → R (.ok f) s') (A' : Around) :
    codeAny (model prog w) A' (.handlers (.ref e) [.ExceptHandler none (some y) [.Return (some ex) p2] pos] env) R { s with heap := h', toks := tk } := by
  unfold asOk at h
  simp only [Bool.and_eq_true, beq_iff_eq, Option.isNone_iff_eq_none] at h
  obtain ⟨h0, ⟨h1, hy⟩, h3⟩ := h
  obtain ⟨f, pf, es, q, rfl, h01⟩ := onCall_elim h0
  rw [Bool.and_eq_true] at h01
  obtain ⟨h4, h5⟩ := h01
  obtain ⟨a1, a2, rfl, h51⟩ := two_elim h5
  rw [Bool.and_eq_true] at h51
  obtain ⟨z1, pz1, rfl, h6⟩ := onName_elim h51.1
  obtain ⟨z2, pz2, rfl, h7⟩ := onName_elim h51.2
  have h6 := of_decide_eq_true h6
  subst h6
  have ky : env.kindOf z1 = some .local := by rw [cx.kind]; exact h1
  have hp : (env.scope.kind == .class || (env.scope.kind == .module && env.locals != env.globals)) = false := by rw [cx.frm.kind]; rfl
  refine codeAny_handlers_suite_as (a.land fun h2 a2 => ?_)
  have frm2 := cx.frm.step a2.st.step
  have vars2 := cx.vars.step cx.frm a2.st.step
  obtain ⟨m, hn⟩ := frm2.ns
  refine wpAny_storeName_local (s := { s with heap := h2, toks := tk }) ky hn (fun h3' n3 sb3 => ?_) hp
  have k3 : ∀ b o, b ≠ env.locals → h2.get? b = some o → h3'.get? b = some o := sameBut_keep sb3
  have kB : ∀ b o, B.get? b = some o → h3'.get? b = some o := fun b o q => k3 b o (fun z => by rw [z, frm2.locB] at q; cases q) (a2.old b o q)
  obtain ⟨oe, vs, e1, e2, e3⟩ := a2.cls
  have e1' : h3'.get? e = some oe := k3 e oe (fun z => by
    obtain ⟨o, es, ep, eo, d, _⟩ := hn
    rw [z, eo] at e1; cases e1; rw [d] at e3; cases e3) e1
  have ng : h3'.Ns env.globals mg := by rw [frm2.glob]; exact Ns_at G.ng fun o e => kB _ o e
  have nb : h3'.Ns env.builtins mb := by rw [frm2.bl]; exact Ns_at G.nb fun o e => kB _ o e
  refine wpAny_execs_cons (wpAny_Return_some (wpAny_Call_Name_kw (name_built ng nb cx.scope cx.frm.kind h4 (G.bi _ _ (globK_split h4).2.2) ?_)))
  refine Calls.callWith_builtin (noStar_back (noStar_two rfl rfl)) (args_eq (noStar_two rfl rfl) (two_spliced rfl rfl (wpAny_Name (wpAny_loadName_local cx.frm.kind ky n3 (by rw [if_pos rfl]) ?_) (nameOk_1 hy))))
  refine name_built ng nb cx.scope cx.frm.kind h7 (G.ty _ _ (globK_split h7).2.2) (isi_exc (B := B) (c := c) kB a.r.2 e1' e2 (hR _ _ ?_))
  refine wpAny_nameGoes_keeps (s := { s with heap := h3', toks := _ }) ky n3 hp fun h4' v4 n4 sb4 => ?_
  have k4 : ∀ b o, ¬ b = env.locals → h2.get? b = some o → h4'.get? b = some o := fun b o nb e => sameBut_keep sb4 b o nb (k3 b o nb e)
  refine p μ' _ h4' _ ((a2.r.1.grow a2.b1).other (P := fun b => b = env.locals) k4 (fun b z => z ▸ frm2.locMu) (fun b z => z ▸ frm2.locB)) ?_ ?_ ?_ ⟨_, rfl, rfl⟩
  · have t := a2.st.step.toF cx.frm.ownMu
    exact ⟨t.pre, fun b o n1 n2 q => look_keep (fun o' => k4 b o' fun z => n2 (.inl z)) (t.keep b o n1 n2 q), t.fresh, fun b o q eo => by
      by_cases z : b = env.locals
      · subst z; exact Ns_alive n4
      · obtain ⟨o', e'⟩ := t.own b o q eo
        exact ⟨o', k4 b o' z e'⟩⟩
  · refine ⟨frm2.kind, frm2.glob, frm2.bl, ⟨_, n4⟩, frm2.locMu, frm2.locB, fun x c q => ?_, frm2.cinj, frm2.has⟩
    obtain ⟨⟨v, ic⟩, ne, nm, nb⟩ := frm2.cell x c q
    exact ⟨⟨v, IsCell_at ic fun o => k4 c o ne⟩, ne, nm, nb⟩
  · intro x i v hk hl hr
    obtain ⟨u, b, rr⟩ := vars2 x i v hk hl hr
    refine ⟨u, ?_, rr⟩
    have nx : x ≠ z1 := fun z => by rw [z, h3] at hl; cases hl
    rcases b with ⟨k, m', n', e'⟩ | ⟨k, c', l', ic⟩
    · refine .inl ⟨k, _, n4, ?_⟩
      simp only [if_neg nx]
      rw [Ns_uniq hn n']; exact e'
    · exact .inr ⟨k, c', l', IsCell_at ic fun o => k4 c' o (frm2.cell x c' l').2.1⟩

theorem handle_sound (G : GOk g F B mg mb) (cx : Cx n B X A env sc sm ρ μ σ s.heap) {l : List Env} {μ' : List Addr} {σ' : MH} {c : Nat} {e : Addr} {base h' : Heap} {tk : Nat} {v : Val} {Q : Flow → Shared → Prop} (a : AtH B l μ μ' σ' s c e base h') (p : PostS B X env sm μ s Q (.ok (.ret v, ρ) σ')) :
    ∀ (hs : List (Nat × Bool × Val)) (hl : List ExceptHandler), chkH g sc sm hs hl = true → caught c hs = some v → wpAny (model prog w) A (handleBy (.ref e) env hl) Q X.E { s with heap := h', toks := tk }
  | [], _, _, q => by cases q
  | k :: r, [], h, _ => (Bool.false_ne_true h).elim
  | k :: r, .ExceptHandler none nm body pos :: r', h, _ => (Bool.false_ne_true (and_left (a := false) (b := chkH g sc sm r r') h)).elim
  | k :: r, .ExceptHandler (some t) nm body pos :: r', h, q => by
    have h1 := and_left h
    have h2 := and_right h
    obtain ⟨x, px, rfl, h3⟩ := onName_elim (and_left h1)
    obtain ⟨st, rfl, h4⟩ := one_elim (and_right h1)
    have o := sview_ok st
    unfold onRet at h4
    generalize sview st = vw at o h4
    obtain ⟨hm, hk⟩ := G.cls x k.1 (globK_split h3).2.2
    obtain ⟨oe, vs, e1, e2, _⟩ := a.cls
    have ng : h'.Ns env.globals mg := by rw [cx.frm.glob]; exact Ns_at G.ng fun o e => a.old _ o e
    refine wpAny_handleBy_cons (codeAny_handlers_test (name_glob (s := { s with heap := h', toks := tk }) ng cx.scope cx.frm.kind h3 hm (exc_matches a.old a.r.2 hk e1 e2 ?_))) (by intro z; cases z)
    rw [caught] at q
    by_cases hit : k.1 = c ∨ k.1 = 0
    · rw [if_pos hit] at q
      cases q
      rw [decide_eq_true hit]
      cases o with
      | ret ev p2 =>
        cases ev with
        | none => exact (Bool.false_ne_true h4).elim
        | some ev =>
          cases nm with
          | none =>
            obtain ⟨k', kn, p1, rfl, h5⟩ := onConst_elim (and_right h4)
            exact suite_const cx a h5 p (fun f s' z => z) _
          | some y =>
            have h5 : ((k.2.1 && asOk g sc sm y ev) && decide (k.2.2 = .bool true)) = true := h4
            rw [of_decide_eq_true (and_right h5)] at p
            exact suite_as G cx a (and_right (and_left h5)) p (fun f s' z => z) _
      | _ => exact (Bool.false_ne_true h4).elim
    · rw [if_neg hit] at q
      rw [decide_eq_false hit]
      exact handle_sound G cx a p r r' h2 q

theorem sx_try {b : MStmt} {hs : List (Nat × Bool × Val)} {y : List Stmt} {hl : List ExceptHandler} {pos : Pos} (G : GOk g F B mg mb) (hb : SPs n C W prog w B sc sm b y) (hne : (!hs.isEmpty) = true) (hh : chkH g sc sm hs hl = true) :
    SX n C W prog w B sc sm (.tryx b hs) (.Try y hl [] [] pos) := fun {env ρ σ μ s A X Q} cx p => by
  have p : PostS B X env sm μ s Q (tryV hs ρ (exec C W b ρ σ)) := p
  cases hl with
  | nil =>
    cases hs with
    | nil => cases hne
    | cons => exact (Bool.false_ne_true hh).elim
  | cons h₀ hl =>
    refine wpAny_Try_except (hb (X := ⟨X.l, _⟩) ⟨cx.scope, cx.ok, cx.frm, cx.vars, cx.rel, cx.frames, cx.fok, cx.here, cx.apart⟩ ?_)
    cases q : exec C W b ρ σ with
    | stuck => rw [q] at p; exact p
    | ok pr σ' =>
      rw [q] at p
      intro μ' f h' tk r st hv
      obtain ⟨fl, ρ'⟩ := pr
      obtain ⟨hr, hf⟩ := hv
      have hr : ρ' = ρ := hr
      subst hr
      have q := p μ' f h' tk r (st.toF cx.frm.ownMu) (cx.frm.step st) (cx.vars.step cx.frm st) hf
      cases f with
      | next => exact wpAny_execs_nil q
      | _ => exact q
    | exc c σ' =>
      rw [q] at p
      have p : PostS B X env sm μ s Q (match caught c hs with | some v => .ok (.ret v, ρ) σ' | none => .stuck) := p
      cases q2 : caught c hs with
      | none => rw [q2] at p; exact p.elim
      | some v =>
        rw [q2] at p
        obtain ⟨e0, outer, hX, he⟩ := cx.here
        have hfr := cx.frames
        intro μ' h' tk e base r st x
        have x : ExcAt base X.l (clsK B c) e h' := x
        have x' := x
        rw [hX] at x' hfr
        refine fly_note (s := { s with heap := h', toks := tk }) hfr he x' fun h2 n1 n2 n3 n4 => ?_
        have a2 : AtH B X.l μ μ' σ' s c e base h2 := ⟨r, st.hop x.1 n1 n4, n1, x.2.1, hX ▸ n2, n3⟩
        exact a2.land fun h3 a3 => handle_sound G cx a3 p hs (h₀ :: hl) hh q2

end
end Mine


-- part MiniCall
set_option maxRecDepth 4000
set_option linter.unusedVariables false
namespace Mine
open PySem

section
variable {n : Nat} {C : Cf} {W : Nat} {prog : Program} {w : World} {B : Heap} {sc : Scope} {sm : List (Str × Nat)} {g : GMap} {F : Nat → Option MFun} {mg mb : Str → Option Value}
variable {env : Env} {ρ : Rho} {σ : MH} {μ : List Addr} {s : Shared} {A : Around} {E : Value → Shared → Prop} {X : XE}

theorem slots_sound (inj : SmOk sm) : ∀ {ts : List Nat} {elts : List Expr} {vs : List Val} {ws : List Value} {ρ ρ' : Rho} {s : Shared} {Q : Unit → Shared → Prop}, chkSlots sc sm ts elts = true → bindS ts vs ρ = some ρ' → VsRel μ vs ws → Cx n B X A env sc sm ρ μ σ s.heap →
    (∀ h' tk, HRel B μ σ h' → StepF env μ μ s.heap h' → Frm B env μ h' → Vars env sm ρ' μ h' → Q () { s with heap := h', toks := tk }) →
    wpAny (model prog w) A (assignInOrder ((assignEach elts env).map (·.2)) ws) Q E s
  | [], elts, vs, ws, ρ, ρ', s, Q, hc, hb, hv, cx, k => by
    rw [List.isEmpty_iff.mp (show elts.isEmpty = true from hc)]
    cases vs with
    | nil =>
      cases hb
      rw [show ws = [] from hv]
      exact wpAny_pure (k s.heap s.toks cx.rel StepF.refl cx.frm cx.vars)
    | cons v vs => cases hb
  | i :: is, [], _, _, _, _, _, _, hc, _, _, _, _ => (Bool.false_ne_true hc).elim
  | i :: is, e :: r, vs, ws, ρ, ρ', s, Q, hc, hb, hv, cx, k => by
    obtain ⟨x, px, rfl, hx⟩ := onName_elim (and_left hc)
    cases vs with
    | nil => cases hb
    | cons v vs =>
      obtain ⟨w1, ws', rfl, hw1, hws⟩ := hv
      show wpAny (model prog w) A (holding ws' (assign (.Name x px) env w1) >>= fun _ => assignInOrder ((assignEach r env).map (·.2)) ws') Q E s
      refine wpAny_bind (wpAny_holding (wpAny_bind (wpAny_standAt (wpAny_bindName (store_sound inj hx cx hw1 fun h1 tk1 r1 st1 f1 v1 => ?_)))))
      exact slots_sound inj (and_right hc) hb hws (cx.stepF st1 r1 f1 v1) fun h2 tk2 r2 st2 f2 v2 => k h2 tk2 r2 (st1.trans st2) f2 v2

theorem slots_len : ∀ {ts : List Nat} {elts : List Expr} {vs : List Val} {ρ ρ' : Rho}, chkSlots sc sm ts elts = true → bindS ts vs ρ = some ρ' → elts.length = vs.length ∧ (assignEach elts env).length = elts.length ∧ (assignEach elts env).findIdx? (·.1) = none
  | [], elts, vs, ρ, ρ', hc, hb => by
    rw [List.isEmpty_iff.mp (show elts.isEmpty = true from hc)]
    cases vs with
    | nil => exact ⟨rfl, rfl, rfl⟩
    | cons v vs => cases hb
  | i :: is, [], _, _, _, hc, _ => (Bool.false_ne_true hc).elim
  | i :: is, e :: r, vs, ρ, ρ', hc, hb => by
    obtain ⟨x, px, rfl, hx⟩ := onName_elim (and_left hc)
    cases vs with
    | nil => cases hb
    | cons v vs =>
      obtain ⟨h1, h2, h3⟩ := slots_len (and_right hc) hb
      refine ⟨congrArg (· + 1) h1, congrArg (· + 1) h2, ?_⟩
      show ((false, assign (.Name x px) env) :: assignEach r env).findIdx? (·.1) = none
      rw [List.findIdx?_cons]
      show Option.map _ _ = none
      rw [h3]; rfl

theorem swappedStores_none {elts : List Expr} {k : Nat} {p1 : Pos} {v : Expr} (h : isTupleE v = false) : swappedStores [.Tuple elts k p1] v env = pure none := by
  cases v <;> first | rfl | exact (Bool.false_ne_true h.symm).elim

theorem sx_atup {ts : List Nat} {e : MExpr} {elts : List Expr} {v : Expr} {k : Nat} {p1 pos : Pos} (inj : SmOk sm) (hc : chkSlots sc sm ts elts = true) (ht : isTupleE v = false) (hn : isComp v = false) (he : SE n C prog w B sc sm e v) :
    SX n C W prog w B sc sm (.atup ts e) (.Assign [.Tuple elts k p1] v pos) := fun {env ρ σ μ s A X Q} cx p => by
  refine PyProof.Rows.Assign_Tuple (he.bindS cx p fun u σ1 μ1 u' h1 tk cx1 st hu q => ?_) (show swapsWithSole [.Tuple elts k p1] v pos.line env = pure false from (swaps_false (t := .Tuple elts k p1) (line := pos.line) (env := env) hn)) (swappedStores_none ht)
  cases u with
  | ref i =>
    obtain ⟨a, ea, rfl⟩ := hu
    cases hz : σ1[i]? with
    | none => simp only [tupV, hz] at q; exact q.elim
    | some o =>
      cases o with
      | tup vs =>
        have q : PostS B X env sm μ1 { s with heap := h1, toks := tk } Q ((Res.opt (bindS ts vs ρ) σ1).bind fun ρ' h => .ok (.next, ρ') h) := by
          simp only [tupV, hz] at q; exact q
        cases hb : bindS ts vs ρ with
        | none => rw [hb] at q; exact q.elim
        | some ρ' =>
          rw [hb] at q
          obtain ⟨l, ys, m, gg, hys⟩ := cx1.rel.at ea hz
          obtain ⟨l1, l2, l3⟩ := slots_len (env := env) hc hb
          show wpAny (model prog w) A (standAt p1 >>= fun _ => unpack (.ref a) (assignEach elts env)) _ X.E { s with heap := h1, toks := tk }
          refine wpAny_bind (wpAny_standAt (wpAny_unpack_tuple cx.ok.handled (isTup_of gg) (by rw [l2, l1]; simp [hys.length]) l3 fun h2 eb => ?_))
          have kk : ∀ b o, h1.get? b = some o → h2.get? b = some o := fun b o e => eb b o (Nat.ne_of_lt (Heap.lt_size e)) e
          have cx2 := cx1.step (Step.grow kk) (cx1.rel.grow kk)
          refine slots_sound (s := { s with heap := h2, toks := tk }) inj hc hb (by simpa using hys) cx2 fun h3 tk3 r3 st3 f3 v3 => ?_
          exact q μ1 .next h3 tk3 r3 (((Step.grow (μ := μ1) kk).toF cx1.frm.ownMu).trans st3) f3 v3 rfl
      | _ => simp only [tupV, hz] at q; exact q.elim
  | _ => exact q.elim

noncomputable def PX (n : Nat) (C : Cf) (W : Nat) (prog : Program) (w : World) (B : Heap) (g : GMap) (sc : Scope) (sm : List (Str × Nat)) (m : MStmt) : Prop :=
  (∀ st, (chkS g sc sm m).S st = true → SX n C W prog w B sc sm m st) ∧ (∀ l, (chkS g sc sm m).Ss l = true → SXs n C W prog w B sc sm m l)

theorem px_of_S {m : MStmt} {f : Stmt → Bool} (hm : chkS g sc sm m = csS f) (h : ∀ st, f st = true → SX n C W prog w B sc sm m st) : PX n C W prog w B g sc sm m := by
  unfold PX; rw [hm]; exact ⟨h, fun l q => (Bool.false_ne_true q).elim⟩

theorem px_of_V {m : MStmt} {f : SV → Bool} (hm : chkS g sc sm m = csV f) (h : ∀ st vw, SVOk st vw → f vw = true → SX n C W prog w B sc sm m st) : PX n C W prog w B g sc sm m := by
  unfold PX; rw [hm]; exact ⟨fun st q => h st _ (sview_ok st) q, fun l q => (Bool.false_ne_true q).elim⟩

theorem comp_of_chk {m : MExpr} {v : Expr} (hc : isComp v = true) (q : (chk g m sc sm).E v = true) : ∃ elt tgt it cond, m = .comp elt tgt it cond := by
  cases m with
  | comp elt tgt it cond => exact ⟨_, _, _, _, rfl⟩
  | const => obtain ⟨_, _, _, rfl, _⟩ := onConst_elim q; cases hc
  | gconst => obtain ⟨_, _, rfl, _⟩ := onName_elim q; cases hc
  | loc => obtain ⟨_, _, rfl, _⟩ := onName_elim q; cases hc
  | bin => obtain ⟨_, _, _, _, rfl, _⟩ := onBin_elim q; cases hc
  | un => obtain ⟨_, _, _, rfl, _⟩ := onUn_elim q; cases hc
  | and => obtain ⟨_, _, _, rfl, _⟩ := onBool_elim q; cases hc
  | or => obtain ⟨_, _, _, rfl, _⟩ := onBool_elim q; cases hc
  | cmp => obtain ⟨_, _, _, _, rfl, _⟩ := onCmp_elim q; cases hc
  | cmp2 => obtain ⟨_, _, _, _, rfl, _⟩ := onCmp_elim q; cases hc
  | isinst => obtain ⟨_, _, _, _, rfl, _⟩ := onCall_elim q; cases hc
  | call => obtain ⟨_, _, _, _, rfl, _⟩ := onCall_elim q; cases hc
  | bi => obtain ⟨_, _, _, _, rfl, _⟩ := onCall_elim q; cases hc
  | meth => obtain ⟨_, _, _, rfl, _⟩ := onCallX_elim q; cases hc
  | lst => obtain ⟨_, _, rfl, _⟩ := onList_elim q; cases hc
  | tup => obtain ⟨_, _, _, rfl, _⟩ := onTup_elim q; cases hc
  | sub => obtain ⟨_, _, _, rfl, _⟩ := onSub_elim q; cases hc
  | slice => obtain ⟨_, _, _, rfl, _⟩ := onSub_elim q; cases hc
  | _ => cases q

theorem allS (G : GOk g F B mg mb) (cs : CS n C prog w g F B) (inj : SmOk sm) : ∀ m, PX n C W prog w B g sc sm m := by
  have AE := allE (n := n) (C := C) (prog := prog) (w := w) G cs
  intro m
  induction m with
  | nil =>
    refine ⟨fun st q => (Bool.false_ne_true q).elim, fun l q => ?_⟩
    have : l = [] := List.isEmpty_iff.mp q
    subst this; exact @sx_nil _ _ _ _ _ _ _ _
  | cons a b ia ib =>
    refine ⟨fun st q => (Bool.false_ne_true q).elim, fun l q => ?_⟩
    cases l with
    | nil => exact (Bool.false_ne_true q).elim
    | cons st r =>
      have q : ((chkS g sc sm a).S st && (chkS g sc sm b).Ss r) = true := q
      rw [Bool.and_eq_true] at q
      intro _ _ _ _ _ _ _ _ cx p; exact sx_cons (ia.1 _ q.1) (ib.2 _ q.2) cx p
  | assign i e =>
    refine px_of_V rfl fun st vw o q => ?_
    cases o with
    | assign t v pos =>
      have q : (onName (fun x => stK sc sm x i) t && (chk g e sc sm).E v) = true := q
      rw [Bool.and_eq_true] at q
      obtain ⟨q0, q2⟩ := q
      obtain ⟨x, px, rfl, q1⟩ := onName_elim q0
      have q : stK sc sm x i = true ∧ (chk g e sc sm).E v = true := ⟨q1, q2⟩
      rcases Bool.eq_false_or_eq_true (isComp v) with hc | hc
      · obtain ⟨q1, q2⟩ := q
        -- the value is a comprehension: its parts again
        obtain ⟨elt, tgt, it, cond, rfl⟩ := comp_of_chk hc q2
        obtain ⟨e1, gs, sc', p2, rfl, k⟩ := onComp_elim q2
        cases tgt with
        | loc ii =>
          obtain ⟨gn, rfl, k2⟩ := one_elim k
          obtain ⟨tg, iter, ifs, a⟩ := gn
          obtain ⟨x', p3, hx, k3⟩ := onName_elim k2
          simp only at hx
          subst hx
          simp only [Bool.and_eq_true, beq_iff_eq] at k3
          obtain ⟨⟨⟨⟨⟨⟨⟨rfl, t1⟩, t2⟩, t3⟩, t4⟩, t5⟩, t6⟩, t7⟩ := k3
          intro _ _ _ _ _ _ _ _ cx p
          refine sx_assign_comp inj q1 (compOk_of t1 t2 t4) ((AE it sc sm).2.2 _ t5) ((AE elt _ _).1 _ t6).1 ?_ cx p
          split at t7
          · rw [isTT_eq t7]; exact test_nil
          · exact test_one ((AE cond _ _).1 _ t7).2.1
          · cases t7
        | _ => cases k
      · intro _ _ _ _ _ _ _ _ cx p; exact sx_assign_plain inj q.1 ((AE e sc sm).1 _ q.2).1 (swaps_false hc) cx p
    | _ => exact (Bool.false_ne_true q).elim
  | asub o i e =>
    refine px_of_V rfl fun st vw w q => ?_
    cases w with
    | assign t v pos =>
      obtain ⟨eo, ei, p2, rfl, q'⟩ := onSub_elim q
      simp only [Bool.and_eq_true, Bool.not_eq_true'] at q'
      intro _ _ _ _ _ _ _ _ cx p; exact sx_asub ((AE e sc sm).1 _ q'.1.1.1).1 ((AE o sc sm).1 _ q'.1.1.2).1 ((AE i sc sm).1 _ q'.1.2).1 cx p
    | _ => exact (Bool.false_ne_true q).elim
  | aattr o k e => exact px_of_S (f := fun _ => false) rfl fun st q => by cases q
  | atup ts e =>
    refine px_of_V rfl fun st vw w q => ?_
    cases w with
    | assign t v pos =>
      obtain ⟨l, c, p2, rfl, q'⟩ := onTup_elim q
      simp only [Bool.and_eq_true, Bool.not_eq_true'] at q'
      intro _ _ _ _ _ _ _ _ cx p; exact sx_atup inj q'.1.1.1 q'.1.2 q'.2 ((AE e sc sm).1 _ q'.1.1.2).1 cx p
    | _ => exact (Bool.false_ne_true q).elim
  | expr e =>
    refine px_of_V rfl fun st vw w q => ?_
    cases w with
    | expr v pos =>
      have q : ((chk g e sc sm).E v && !isComp v) = true := q
      simp only [Bool.and_eq_true, Bool.not_eq_true'] at q
      intro _ _ _ _ _ _ _ _ cx p; exact sx_expr q.2 ((AE e sc sm).1 _ q.1).1 cx p
    | _ => exact (Bool.false_ne_true q).elim
  | ifs c t e it ie =>
    refine px_of_V rfl fun st vw w q => ?_
    cases w with
    | ifs x y z pos =>
      have q : ((chk g c sc sm).E x && (chkS g sc sm t).Ss y && (chkS g sc sm e).Ss z) = true := q
      simp only [Bool.and_eq_true] at q
      intro _ _ _ _ _ _ _ _ cx p; exact sx_if ((AE c sc sm).1 _ q.1.1).2.1 (it.2 _ q.1.2) (ie.2 _ q.2) cx p
    | _ => exact (Bool.false_ne_true q).elim
  | fors tgt it b ib =>
    refine px_of_V rfl fun st vw w q => ?_
    cases w with
    | fors x y z pos =>
      have q : (chkTgt sc sm tgt x && (chk g it sc sm).I y && (chkS g sc sm b).Ss z) = true := q
      simp only [Bool.and_eq_true] at q
      obtain ⟨⟨q1, q2⟩, q3⟩ := q
      cases tgt with
      | loc i =>
        obtain ⟨x, px, rfl, q1⟩ := onName_elim q1
        intro _ _ _ _ _ _ _ _ cx p; exact sx_for inj q1 ((AE it sc sm).2.2 _ q2) (ib.2 _ q3) cx p
      | _ => exact (Bool.false_ne_true q1).elim
    | _ => exact (Bool.false_ne_true q).elim
  | whiles c b ib =>
    refine px_of_V rfl fun st vw w q => ?_
    cases w with
    | whiles x y pos =>
      have q : ((chk g c sc sm).E x && (chkS g sc sm b).Ss y) = true := q
      simp only [Bool.and_eq_true] at q
      intro _ _ _ _ _ _ _ _ cx p; exact sx_while ((AE c sc sm).1 _ q.1).2.1 (ib.2 _ q.2) cx p
    | _ => exact (Bool.false_ne_true q).elim
  | ret e =>
    refine px_of_V rfl fun st vw w q => ?_
    cases w with
    | ret v pos =>
      cases v with
      | some v => intro _ _ _ _ _ _ _ _ cx p; exact sx_ret ((AE e sc sm).1 _ q).1 cx p
      | none => rw [isNC_eq q]; intro _ _ _ _ _ _ _ _ cx p; exact sx_ret0 cx p
    | _ => exact (Bool.false_ne_true q).elim
  | raise c =>
    refine px_of_V rfl fun st vw w q => ?_
    cases w with
    | raise e pos =>
      obtain ⟨x, np, es, cp, rfl, q'⟩ := onCall_elim q
      rw [Bool.and_eq_true] at q'
      obtain ⟨y, rfl, q2⟩ := one_elim q'.2
      obtain ⟨cc, k, p1, rfl, q3⟩ := onConst_elim q2
      cases cc with
      | str t => intro _ _ _ _ _ _ _ _ cx p; exact sx_raise G q'.1 cx p
      | _ => exact (Bool.false_ne_true q3).elim
    | _ => exact (Bool.false_ne_true q).elim
  | tryx b hs ib =>
    refine px_of_V rfl fun st vw w q => ?_
    cases w with
    | tryx y hl pos =>
      have q : (noAsg b && (chkS g sc sm b).Ss y && (!hs.isEmpty && chkH g sc sm hs hl)) = true := q
      have q1 := and_left (and_left q)
      have q2 := and_right (and_left q)
      have q3 := and_right q
      intro _ _ _ _ _ _ _ _ cx p; exact sx_try G ((allP G cs b q1).2 _ q2) (and_left q3) (and_right q3) cx p
    | _ => exact (Bool.false_ne_true q).elim

end
end Mine


-- part MiniFun
set_option maxRecDepth 4000
set_option linter.unusedVariables false
set_option linter.unusedSimpArgs false
namespace Mine
open PySem

theorem lookup_zip_some : ∀ (ns : List Str) (ws : List Value) (x : Str), x ∈ ns → ns.length = ws.length → ((ns.zip ws).lookup x).isSome = true
  | [], _, _, h, _ => by cases h
  | n :: ns, [], _, _, h => by simp at h
  | n :: ns, w :: ws, x, h, l => by
    rw [List.zip_cons_cons, List.lookup_cons]
    split
    · rfl
    · rename_i hx
      rcases List.mem_cons.mp h with rfl | h
      · simp at hx
      · exact lookup_zip_some ns ws x h (by simpa using l)
theorem filterMap_zip : ∀ (ns : List Str) (ws : List Value) (pre : List (Str × Value)), ns.Nodup → (∀ x ∈ ns, pre.lookup x = none) → ns.length = ws.length → (ns.filterMap fun n => ((pre ++ ns.zip ws).lookup n).map (n, ·)) = ns.zip ws
  | [], _, _, _, _, _ => rfl
  | n :: ns, [], _, _, _, h => by simp at h
  | n :: ns, w :: ws, pre, nd, hp, l => by
    rw [List.zip_cons_cons, List.filterMap_cons]
    have e : (pre ++ (n, w) :: ns.zip ws).lookup n = some w := by
      rw [List.lookup_append, hp n (.head _)]; simp
    rw [e]
    simp only [Option.map_some]
    congr 1
    have := filterMap_zip ns ws (pre ++ [(n, w)]) (List.nodup_cons.mp nd).2 (fun x hx => by
      rw [List.lookup_append, hp x (.tail _ hx)]
      have : (x == n) = false := by
        rw [beq_eq_false_iff_ne]; intro q; subst q; exact (List.nodup_cons.mp nd).1 hx
      simp [List.lookup_cons, this]) (by simpa using l)
    rw [List.append_assoc] at this
    exact this
theorem pureBind {α β : Type} (a : α) (f : α → Sem β) : ((pure a : Sem α) >>= f) = f a := rfl
theorem seqNone : seqItems? .none = pure none := rfl
theorem bindArgs_plain {fd : FuncData} {ws : List Value} {names : List Str} (h1 : fd.params.posonlyargs = []) (h2 : fd.params.kwonlyargs = []) (h3 : fd.params.vararg = none) (h4 : fd.params.kwarg = none) (h5 : fd.defaults = .none)
    (hn : fd.params.args.map (·.arg) = names) (nd : names.Nodup) (hl : ws.length = names.length) : bindArgs fd ⟨ws, []⟩ = pure (names.zip ws) := by
  have hm : (names.filter fun n => ((names.zip ws).lookup n).isNone) = [] := by
    rw [List.filter_eq_nil_iff]; intro x hx
    have := lookup_zip_some names ws x hx hl.symm
    simp only [Option.isNone_iff_eq_none]
    intro q; rw [q] at this; cases this
  have hf := filterMap_zip names ws [] nd (fun _ _ => rfl) hl.symm
  unfold bindArgs
  simp only [h1, h2, h3, h4, h5, hn, List.map_nil, List.nil_append, List.append_nil, hl]
  simp only [List.forIn_nil, pureBind, seqNone, Option.getD_none, List.length_nil, Nat.sub_zero, Nat.zero_sub, List.drop_nil, List.drop_zero, gt_iff_lt, Nat.lt_irrefl, decide_false, Bool.false_and, Bool.false_eq_true, if_false, List.take_length, List.drop_length, List.zip_nil_right, List.zip_nil_left, hm, List.isEmpty_nil, Bool.not_true]
  exact congrArg pure hf

theorem cellsFrom_has {x : Str} : ∀ (names : List (Str × NameKind)) (n : Nat) (acc : List (Str × Addr)), ((x, .cell) ∈ names ∨ ∃ c, acc.lookup x = some c) → ∃ c, (cellsFrom n names acc).lookup x = some c
  | [], _, _, h => h.elim (fun e => by cases e) id
  | (y, k) :: r, n, acc, h => by
    unfold cellsFrom
    by_cases hk : (k == .cell) = true
    · rw [if_pos hk]
      refine cellsFrom_has r (n + 1) ((y, n) :: acc) ?_
      by_cases hy : (x == y) = true
      · exact .inr ⟨n, by rw [List.lookup_cons, hy]⟩
      · have hy' : (x == y) = false := by simpa using hy
        rcases h with h | ⟨c, h⟩
        · rcases List.mem_cons.mp h with q | q
          · cases q; simp at hy
          · exact .inl q
        · exact .inr ⟨c, by rw [List.lookup_cons, hy']; exact h⟩
    · rw [if_neg hk]
      refine cellsFrom_has r n acc ?_
      rcases h with h | h
      · rcases List.mem_cons.mp h with q | q
        · cases q; simp at hk
        · exact .inl q
      · exact .inr h

theorem bindL_skip {kindOf : Str → Option NameKind} {x : Str} : ∀ (binds : List (Str × Value)) (m : Str → Option Value), x ∉ binds.map (·.1) → bindL kindOf binds m x = m x
  | [], _, _ => rfl
  | (y, v) :: r, m, h => by
    rw [bindL, bindL_skip r _ fun q => h (.tail _ q)]
    split
    · show (if x = y then some v else m x) = m x
      rw [if_neg fun q => h (by rw [q]; exact .head _)]
    · rfl
theorem bindC_skip {kindOf : Str → Option NameKind} {x : Str} : ∀ (binds : List (Str × Value)) (m : Str → Option Value), x ∉ binds.map (·.1) → bindC kindOf binds m x = m x
  | [], _, _ => rfl
  | (y, v) :: r, m, h => by
    rw [bindC, bindC_skip r _ fun q => h (.tail _ q)]
    split
    · rfl
    · show (if x = y then some v else m x) = m x
      rw [if_neg fun q => h (by rw [q]; exact .head _)]
theorem bindL_get {kindOf : Str → Option NameKind} {x : Str} {v : Value} (hk : kindOf x = some .local) : ∀ (binds : List (Str × Value)) (m : Str → Option Value), (binds.map (·.1)).Nodup → (x, v) ∈ binds → bindL kindOf binds m x = some v
  | [], _, _, h => by cases h
  | (y, u) :: r, m, nd, h => by
    rw [bindL]
    rcases List.mem_cons.mp h with q | q
    · cases q
      rw [bindL_skip r _ (List.nodup_cons.mp nd).1, if_pos hk]; simp
    · exact bindL_get hk r _ (List.nodup_cons.mp nd).2 q
theorem bindC_get {kindOf : Str → Option NameKind} {x : Str} {v : Value} (hk : kindOf x ≠ some .local) : ∀ (binds : List (Str × Value)) (m : Str → Option Value), (binds.map (·.1)).Nodup → (x, v) ∈ binds → bindC kindOf binds m x = some v
  | [], _, _, h => by cases h
  | (y, u) :: r, m, nd, h => by
    rw [bindC]
    rcases List.mem_cons.mp h with q | q
    · cases q
      rw [bindC_skip r _ (List.nodup_cons.mp nd).1, if_neg hk]; simp
    · exact bindC_get hk r _ (List.nodup_cons.mp nd).2 q

theorem zipIdx_lookup {x : Str} {i : Nat} : ∀ (l : List Str) (k : Nat), (l.zipIdx k).lookup x = some i → k ≤ i ∧ l[i - k]? = some x
  | [], _, h => by cases h
  | y :: l, k, h => by
    rw [List.zipIdx_cons, List.lookup_cons] at h
    split at h
    · rename_i hx; cases h; rw [beq_iff_eq] at hx; subst hx; exact ⟨Nat.le_refl _, by simp⟩
    · obtain ⟨h1, h2⟩ := zipIdx_lookup l (k + 1) h
      refine ⟨by omega, ?_⟩
      have : i - k = (i - (k + 1)) + 1 := by omega
      rw [this]; simpa using h2
theorem smOk_zip (l : List Str) : SmOk l.zipIdx := fun x y i hx hy => by
  have h1 := (zipIdx_lookup l 0 hx).2
  have h2 := (zipIdx_lookup l 0 hy).2
  rw [h1] at h2; exact Option.some.inj h2

theorem pair_inj {l : List (Str × Addr)} {x y : Str} {c : Addr} (h : l.Pairwise fun a b => a.2 ≠ b.2) (hx : (x, c) ∈ l) (hy : (y, c) ∈ l) : x = y := by
  induction l with
  | nil => cases hx
  | cons p r ih =>
    rw [List.pairwise_cons] at h
    rcases List.mem_cons.mp hx with q | q <;> rcases List.mem_cons.mp hy with z | z
    · rw [← q] at z; exact (Prod.mk.inj z).1.symm
    · exact absurd rfl (by have := h.1 _ z; rw [← q] at this; exact this)
    · exact absurd rfl (by have := h.1 _ q; rw [← z] at this; exact this)
    · exact ih h.2 q z

section
variable {W : Nat} {prog : Program} {w : World} {B : Heap} {g : GMap} {F : Nat → Option MFun} {mg mb : Str → Option Value}

theorem callN_sound (G : GOk g F B mg mb) : ∀ k, CS k (callN F W k) prog w g F B
  | 0 => fun f a vs ws μ σ s A X Q fa ok rel hfr hfo hv p => (show False from p).elim
  | k + 1 => fun f a vs ws μ σ s A X Q fa ok rel hfr hfo hv p => by
    obtain ⟨o, fd, body, names, d, ho, hd, hcd, hb, hcl, hgl, hbl, hdf, hF, hchk⟩ := fa
    unfold chkFun at hchk
    simp only [Bool.and_eq_true, List.isEmpty_iff, Option.isNone_iff_eq_none, decide_eq_true_eq, beq_iff_eq] at hchk
    obtain ⟨⟨⟨⟨⟨⟨⟨⟨⟨⟨⟨⟨⟨⟨⟨⟨c1, c2⟩, c3⟩, c4⟩, c5⟩, c6⟩, c7⟩, c8⟩, c9⟩, c10⟩, c11⟩, c12⟩, c13⟩, c14⟩, c15⟩, c16⟩, c17⟩ := hchk
    rw [List.all_eq_true] at c14 c15
    have p : Post B X VRel μ s Q (match F f with
      | some d => if vs.length = d.np then (exec (callN F W k) W d.body (vs.map some ++ List.replicate (d.ns - d.np) none) σ).bind fun p h => (match p.1 with | .ret v => .ok v h | .next => .ok .none h) else .stuck
      | none => .stuck) := p
    rw [hF] at p
    simp only at p
    by_cases hlen : vs.length = d.np
    · rw [if_pos hlen] at p
      have wl : ws.length = (names.take d.np).length := by rw [hv.length, hlen, List.length_take]; omega
      have nd : (names.take d.np).Nodup := c8.sublist (List.take_sublist _ _)
      have hbind : bindArgs fd ⟨ws, []⟩ = pure ((names.take d.np).zip ws) := bindArgs_plain c1 c2 c3 c4 hdf c7 nd wl
      have hmap : ((names.take d.np).zip ws).map (·.1) = names.take d.np := List.map_fst_zip (by omega)
      have lok : ∀ x ∈ names, fd.scope.names.lookup x = some .local ∨ fd.scope.names.lookup x = some .cell := fun x hx => by
        have := c14 x hx; simpa using this
      have hroom : A.depth < recursionLimit := by have := ok.depth; show _ < 1000; omega
      refine codeAny_call_cells hroom (rel.base _ _ ho) hd (G.lim.keeps fun b o e => rel.base b o e) (hcd.keeps fun b o e => rel.base b o e) hb hbind hcl (fun x hx => ?_) (fun s₁ ic => ?_) c13 c12 c11
      · have hm : x.1 ∈ names := List.mem_of_mem_take (by rw [← hmap]; exact List.mem_map_of_mem hx)
        rcases lok _ hm with q | q
        · exact .inl q
        · obtain ⟨c, hc⟩ := cellsFrom_has (x := x.1) fd.scope.names (s.heap.objs.size + 1) [] (.inl (mem_of_lookup q))
          exact .inr ⟨q, by rw [hc]; rfl⟩
      · obtain ⟨h₁, tk, rfl, kk⟩ := ic.done
        have hns := ic.toInCall.ns
        have hloc : (callEnvC fd s.heap.objs.size a).locals = s.heap.objs.size := rfl
        have hsc : (callEnvC fd s.heap.objs.size a).scope = fd.scope := rfl
        rw [hloc] at hns
        have r₁ : HRel B μ σ h₁ := rel.grow kk
        have above : ∀ x c, (callEnvC fd s.heap.objs.size a).cells.lookup x = some c → s.heap.objs.size < c := fun x c q => ic.above x c (mem_of_lookup q)
        have none_of : ∀ c, s.heap.objs.size ≤ c → s.heap.get? c = none := fun c hc => by
          cases e : s.heap.get? c with
          | none => rfl
          | some o => exact absurd (Heap.lt_size e) (Nat.not_lt.mpr hc)
        have notMem : ∀ c, s.heap.objs.size ≤ c → c ∉ μ := fun c hc q => by
          obtain ⟨i, hi, e⟩ := List.getElem_of_mem q
          have ei : μ[i]? = some c := by rw [List.getElem?_eq_getElem hi, e]
          have hs : i < σ.length := by rw [← rel.len]; exact hi
          have := rel.obj i _ _ ei (List.getElem?_eq_getElem hs)
          have none' := none_of c hc
          cases q : σ[i] with
          | list xs => rw [q] at this; obtain ⟨_, ys, n, g, _⟩ := this; rw [none'] at g; cases g
          | ro xs => rw [q] at this; obtain ⟨_, ys, n, g, _⟩ := this; rw [none'] at g; cases g
          | tup xs => rw [q] at this; obtain ⟨_, ys, n, g, _⟩ := this; rw [none'] at g; cases g
          | inst fs => rw [q] at this; exact this.elim
        have noB : ∀ c, s.heap.objs.size ≤ c → B.get? c = none := fun c hc => by
          cases q : B.get? c with
          | none => rfl
          | some o => have := rel.base c o q; rw [none_of c hc] at this; cases this
        have frm : Frm B (callEnvC fd s.heap.objs.size a) μ h₁ := by
          refine ⟨c11, hgl, hbl, ⟨_, hns⟩, notMem _ (Nat.le_refl _), noB _ (Nat.le_refl _), fun x c q => ?_, fun x y c q q' => pair_inj ic.apart (mem_of_lookup q) (mem_of_lookup q'), fun x q => ?_⟩
          · have lt := above x c q
            exact ⟨⟨_, ic.cell x c q⟩, Ne.symm (Nat.ne_of_lt lt), notMem c (Nat.le_of_lt lt), noB c (Nat.le_of_lt lt)⟩
          · rcases q with q | q
            · exact cellsFrom_has fd.scope.names (s.heap.objs.size + 1) [] (.inl (mem_of_lookup q))
            · have := c15 _ (mem_of_lookup (show fd.scope.names.lookup x = some .free from q)); simp at this
        have vars : Vars (callEnvC fd s.heap.objs.size a) names.zipIdx (vs.map some ++ List.replicate (d.ns - d.np) none) μ h₁ := by
          intro x i v hx hi he
          have hlt : i < vs.length := by
            rcases Nat.lt_or_ge i vs.length with q | q
            · exact q
            · rw [List.getElem?_append_right (by simpa using q)] at he
              have := List.mem_of_getElem? he
              rw [List.mem_replicate] at this; cases this.2
          rw [List.getElem?_append_left (by simpa using hlt), List.getElem?_map] at he
          have hvi : vs[i]? = some v := by
            cases q : vs[i]? with
            | none => rw [q] at he; cases he
            | some u => rw [q] at he; simp at he; rw [he]
          obtain ⟨u, hu, ru⟩ := hv.get hvi
          have hxi := (zipIdx_lookup names 0 hi).2
          rw [Nat.sub_zero] at hxi
          have hmem : (x, u) ∈ (names.take d.np).zip ws := by
            have hx2 : (names.take d.np)[i]? = some x := by rw [List.getElem?_take, if_pos (by omega)]; exact hxi
            refine List.mem_of_getElem? (i := i) ?_
            rw [List.getElem?_zip_eq_some]; exact ⟨hx2, hu⟩
          have ndm : (((names.take d.np).zip ws).map (·.1)).Nodup := by rw [hmap]; exact nd
          rcases lok x (List.mem_of_getElem? hxi) with q | q
          · exact ⟨u, .inl ⟨q, _, hns, bindL_get q _ _ ndm hmem⟩, ru⟩
          · obtain ⟨c, hc⟩ := cellsFrom_has fd.scope.names (s.heap.objs.size + 1) [] (.inl (mem_of_lookup q))
            refine ⟨u, .inr ⟨.inl q, c, hc, ?_⟩, ru⟩
            have := ic.cell x c hc
            rw [bindC_get (show (callEnvC fd s.heap.objs.size a).kindOf x ≠ some .local by show fd.scope.names.lookup x ≠ _; rw [q]; simp) _ _ ndm hmem] at this
            exact this
        have hfk : FrOk B X.l μ h₁ := fun e he => by
          obtain ⟨h1, L, h2, h3, h4, m, h5⟩ := hfo e he
          exact ⟨h1, L, h2, h3, h4, m, Ns_at h5 fun o e => kk _ o e⟩
        have cx : Cx k B ⟨callEnvC fd s.heap.objs.size a :: X.l, fun e s' => wpAny (model prog w) (A.deeper (callEnvC fd s.heap.objs.size a)) (leaving (callEnvC fd s.heap.objs.size a) e) (fun _ s'' => X.E e s'') (fun e' s'' => X.E e' s'') s'⟩ (A.deeper (callEnvC fd s.heap.objs.size a)) (callEnvC fd s.heap.objs.size a) fd.scope names.zipIdx (vs.map some ++ List.replicate (d.ns - d.np) none) μ σ h₁ :=
          ⟨rfl, ⟨ok.handled, by have := ok.depth; show A.depth + 1 + k < 900; omega, by have := ok.units; show A.units + 3 + 10 * k + 100 < 9900; omega⟩, frm, vars, r₁, Around.frames_deeper hfr, fun e he => by
            rcases List.mem_cons.mp he with rfl | he
            · exact ⟨by rw [show (callEnvC fd s.heap.objs.size a).scope.kind = .function from c11]; simp, s.heap.objs.size, rfl, frm.locMu, frm.locB, _, hns⟩
            · exact hfk e he, ⟨_, _, rfl, rfl⟩, fun e he L hL x q => by
            have lt := above x L q
            rcases List.mem_cons.mp he with rfl | he
            · cases hL; exact absurd lt (Nat.lt_irrefl _)
            · obtain ⟨_, L', h2, _, _, m, h5⟩ := hfo e he
              rw [hL] at h2; cases h2
              obtain ⟨o, eo⟩ := Ns_alive h5
              rw [none_of L (Nat.le_of_lt lt)] at eo; cases eo⟩
        have own : ∀ b, Own (callEnvC fd s.heap.objs.size a) b → s.heap.objs.size ≤ b := fun b q => by
          rcases q with rfl | ⟨x, q⟩
          · exact Nat.le_refl _
          · exact Nat.le_of_lt (above x b q)
        refine (allS (W := W) G (callN_sound G k) (smOk_zip names) d.body).2 body c17 (s := { s with heap := h₁, toks := tk }) cx ?_
        cases q : exec (callN F W k) W d.body (vs.map some ++ List.replicate (d.ns - d.np) none) σ with
        | exc c h =>
          rw [q] at p
          have p : PostX B X μ s c h := p
          intro μ' h' tk' e base r st x
          exact fly_leave (s := { s with heap := h', toks := tk' }) (Around.frames_deeper hfr) x fun h'' x2 up => p μ' h'' tk' e base r (StepX.hop ⟨⟨st.pre, fun b o n e => st.keep b o n (fun z => by obtain ⟨o2, e2, _⟩ := look_elim e; rw [none_of b (own b z)] at e2; cases e2) (look_keep (kk b) e), fun b x y => by
            cases e : s.heap.get? b with
            | none => rfl
            | some o => have := st.fresh b x y; rw [kk b o e] at this; cases this⟩, fun b o n e nd => st.based b o n (fun z => by obtain ⟨o2, e2, _⟩ := look_elim e; rw [none_of b (own b z)] at e2; cases e2) (look_keep (kk b) e) nd⟩ x.1 x2.1 up) x2
        | stuck => rw [q] at p; exact p.elim
        | ok pr σ' =>
          rw [q] at p
          simp only [Res.bind_ok] at p
          intro μ' fl h' tk' r' st' _ _ hf
          have st : Step μ μ' s.heap h' := ⟨st'.pre, fun b o n e => st'.keep b o n (fun z => by obtain ⟨o2, e2, _⟩ := look_elim e; rw [none_of b (own b z)] at e2; cases e2) (look_keep (kk b) e), fun b x y => by
            cases e : s.heap.get? b with
            | none => rfl
            | some o => have := st'.fresh b x y; rw [kk b o e] at this; cases this⟩
          cases q2 : pr.1 with
          | next =>
            rw [q2] at p hf
            rw [show fl = .next from hf]
            exact p μ' .none h' tk' r' st rfl
          | ret v =>
            rw [q2] at p hf
            obtain ⟨u, rfl, hu⟩ := hf
            exact p μ' u h' tk' r' st hu
    · rw [if_neg hlen] at p; exact p.elim

end
end Mine


-- part MiniTop
set_option maxRecDepth 4000
set_option linter.unusedVariables false
set_option linter.unusedSimpArgs false
namespace Mine
open PySem PySem.W PyProof.Rows

noncomputable def bootT : List (Str × GI) := [(Str.ofString "len", .bi "len"), (Str.ofString "sum", .bi "sum"), (Str.ofString "min", .bi "min"), (Str.ofString "max", .bi "max"), (Str.ofString "all", .bi "all"),
  (Str.ofString "int", .ty "int"), (Str.ofString "str", .ty "str"), (Str.ofString "list", .ty "list"), (Str.ofString "tuple", .ty "tuple"), (Str.ofString "bool", .ty "bool"), (Str.ofString "range", .ty "range"), (Str.ofString "isinstance", .bi "isinstance"), (Str.ofString "ValueError", .ty "ValueError")]
noncomputable def bootSays (x : Str) : GI → Prop
  | .ty T => bootBuiltins x = some (.type T)
  | .bi T => bootBuiltins x = some (.builtin T)
  | _ => False
theorem bootT_ok : ∀ q ∈ bootT, bootSays q.1 q.2 := by
  simp only [bootT, List.forall_mem_cons]
  exact ⟨Boot.«len», Boot.«sum», Boot.«min», Boot.«max», Boot.«all», Boot.«int», Boot.«str», Boot.«list», Boot.«tuple», Boot.«bool», Boot.«range», Boot.«isinstance», Boot.«ValueError», fun _ h => nomatch h⟩
noncomputable def bootNm : List Str := bootT.map (·.1)

noncomputable def constOk : Val → PyData → Bool
  | .int i, .int j => decide (i = j)
  | .str s, .str t => decide (t = ⟨s.toArray⟩) && decide (s.length ≤ lim)
  | _, _ => false
theorem const_rel {v : Val} {d : PyData} {h : Heap} {u : Value} (e : constOk v d = true) (r : Reads h u d []) : VRel [] v u := by
  cases v with
  | int i =>
    cases d with
    | int j =>
      have e := of_decide_eq_true e
      subst e; cases r; exact ⟨_, rfl⟩
    | _ => exact (Bool.false_ne_true e).elim
  | str i =>
    cases d with
    | str j =>
      have e : (decide (j = ⟨i.toArray⟩) && decide (i.length ≤ lim)) = true := e
      rw [Bool.and_eq_true] at e
      have e1 := of_decide_eq_true e.1
      have e2 := of_decide_eq_true e.2
      subst e1; cases r; exact ⟨e2, _, rfl⟩
    | _ => exact (Bool.false_ne_true e).elim
  | _ => exact (Bool.false_ne_true e).elim

/-- the classes of exceptions, seen behind the top -/
noncomputable def exOk (cs : List Nat) (s : Shared) : Bool := (0 :: cs).all fun c => decide (c < 9) && s.heap.ownExcOk (clsName c) (if c = 0 then [] else [clsName 0]) bmVE "ValueError.__new__" && (match s.heap.clsAt mainGlobals (clsName c) with | some x => decide (x.2.2.name = clsName c) | none => false)
noncomputable def ExSays (cs : List Nat) (h : Heap) : Prop := ∀ c ∈ 0 :: cs, h.nsMap mainGlobals (clsName c) = some (.ref (clsK h c)) ∧ ExcCls h c
theorem exSays_of {cs : List Nat} {s : Shared} (e : exOk cs s = true) : ExSays cs s.heap := by
  have ea := List.all_eq_true.mp e
  have one : ∀ c ∈ 0 :: cs, c < 9 ∧ s.heap.ownExcOk (clsName c) (if c = 0 then [] else [clsName 0]) bmVE "ValueError.__new__" = true ∧ ∃ o cd, s.heap.nsMap mainGlobals (clsName c) = some (.ref (clsK s.heap c)) ∧ s.heap.get? (clsK s.heap c) = some o ∧ o.data = .cls cd ∧ cd.name = clsName c := fun c hc => by
    have := ea c hc
    rw [Bool.and_eq_true, Bool.and_eq_true] at this
    obtain ⟨⟨t1, t2⟩, t3⟩ := this
    refine ⟨of_decide_eq_true t1, t2, ?_⟩
    split at t3
    · rename_i x hx
      obtain ⟨C, o, cd⟩ := x
      obtain ⟨n1, n2, n3⟩ := Heap.clsAt_spec hx
      have hK : clsK s.heap c = C := by unfold clsK; rw [n1]
      rw [hK]
      exact ⟨o, cd, n1, n2, n3, of_decide_eq_true t3⟩
    · cases t3
  obtain ⟨_, _, o0, cd0, m1, m2, m3, m4⟩ := one 0 (.head _)
  intro c hc
  obtain ⟨l, t, o, cd, n1, n2, n3, n4⟩ := one c hc
  refine ⟨n1, l, ⟨o0, cd0, m2, m3, m4⟩, ?_⟩
  obtain ⟨C, N, nm, q, bs, hdct, sn, sub, ab, col, dd, k0, k1, k2, k3, k5, e1, e2, e3, e4⟩ := Heap.ownExc_of_ok t
  rw [n1] at e1
  cases e1
  have ht : ((if c = 0 then [] else [clsName 0]).map fun n => (s.heap.nsMap mainGlobals n).getD .none) ++ bmVE = tlK s.heap c := by
    unfold tlK
    by_cases z : c = 0
    · rw [if_pos z, if_pos z]; rfl
    · rw [if_neg z, if_neg z, List.map_cons, List.map_nil, m1]; rfl
  have hnm : nm = clsName c := by
    rw [e2] at n2; cases n2; cases n3; exact n4
  have hT : OwnTail s.heap bmVE (((if c = 0 then [] else [clsName 0]).map fun n => (s.heap.nsMap mainGlobals n).getD .none) ++ bmVE) := OwnTail.of_chain _ fun n hn => by
    by_cases z : c = 0
    · rw [if_pos z] at hn; cases hn
    · rw [if_neg z] at hn; rw [List.mem_singleton.mp hn]; exact ⟨_, _, _, (one 0 (.head _)).2.1⟩
  rw [ht] at e2 hT
  subst hnm
  exact ⟨N, q, bs, hdct, sn, sub, ab, col, dd, k0, k1, k2, k3, k5, _, e2, e3, e4, hT⟩
theorem exSays_keeps {cs : List Nat} {h h' : Heap} (y : ExSays cs h) (k : ∀ b o, h.get? b = some o → h'.get? b = some o) : ExSays cs h' := by
  have nm : ∀ c ∈ 0 :: cs, h'.nsMap mainGlobals = h.nsMap mainGlobals := fun c hc => by
    have := (y c hc).1
    funext x
    cases e : h.get? mainGlobals with
    | none => unfold Heap.nsMap at this; rw [e] at this; cases this
    | some o => unfold Heap.nsMap; rw [k _ _ e, e]
  have hm := nm 0 (.head _)
  have hK : ∀ c, clsK h' c = clsK h c := fun c => by unfold clsK; rw [hm]
  have ht : ∀ c, tlK h' c = tlK h c := fun c => by unfold tlK; rw [hK 0]
  intro c hc
  obtain ⟨y1, l, ⟨o0, cd0, y2, y3⟩, N, q, bs, hdct, sn, sub, ab, col, dd, k0, k1, k2, k3, k5, mN, z1, z2, z3, z4⟩ := y c hc
  rw [hm, hK]
  refine ⟨y1, l, ⟨o0, cd0, by rw [hK]; exact k _ _ y2, y3⟩, N, q, bs, hdct, sn, sub, ab, col, dd, k0, k1, k2, k3, k5, mN, ?_, Ns_at z2 fun o e => k _ o e, z3, ?_⟩
  · rw [hK, ht]; exact k _ _ z1
  · rw [ht]; exact z4.keeps k
noncomputable def exHook (cs : List Nat) : Hook := ⟨Bool, exOk cs, fun _ => true, fun _ h => ExSays cs h, fun _ _ e => exSays_of e, fun _ _ _ y k => exSays_keeps y k⟩

noncomputable def chkG (cs : List Nat) (p : Program) (loose : List Str) (nm : Nat → List Str) (F : Nat → Option MFun) (g : GMap) : Bool := g.all fun q => match q.2 with
  | .fn f => (match (recsOf p).find? (fun d => d.name == q.1), F f with
    | some d, some m => chkFun g (nm f) d.params d.scope d.body m
    | _, _ => false)
  | .const v => (match valOf p q.1 with | some d => constOk v d | none => false)
  | .cls c => decide (q.1 = clsName c) && cs.contains c
  | i => bootT.lookup q.1 == some i && (q.1 == ("__name__" : Str)) == false && !startupNames.contains q.1 && !loose.contains q.1 && !((recsOf p).map (·.name)).contains q.1 && !((litsOf p).map (·.1)).contains q.1 && !((clssOf p loose).map (·.name)).contains q.1

theorem gok_of {p : Program} {loose : List Str} {mean : ExcName → Option Value} {mg mb : Str → Option Value} {h : Heap} {nm : Nat → List Str} {F : Nat → Option MFun} {g : GMap} {cs : List Nat}
    (T : Top p loose mean mg mb h) (e : chkG cs p loose nm F g = true) (Y : ExSays cs h) : GOk g F h mg mb := by
  unfold chkG at e
  rw [List.all_eq_true] at e
  refine ⟨T.g, T.b, T.nolimit, fun x f q => ?_, fun x v q => ?_, fun x t q => ?_, fun x t q => ?_, fun x c q => ?_⟩
  · have := e _ (mem_of_lookup q)
    simp only at this
    split at this
    · rename_i d m hd hm
      have hmem := List.mem_of_find?_eq_some hd
      have hname := List.find?_some hd
      simp only [beq_iff_eq] at hname
      obtain ⟨a, o, pm, code, doc, h1, h2, h3, h4⟩ := T.fn d hmem
      exact ⟨a, by rw [← hname]; exact h1, o, _, d.body, nm f, m, h2, h3, h4, rfl, rfl, rfl, rfl, rfl, hm, this⟩
    · cases this
  · have := e _ (mem_of_lookup q)
    simp only at this
    split at this
    · rename_i d hd
      obtain ⟨u, h1, h2⟩ := T.const x d hd
      exact ⟨u, h1, const_rel this (h2 h)⟩
    · cases this
  · have := e _ (mem_of_lookup q)
    simp only [Bool.and_eq_true, beq_iff_eq, Bool.not_eq_true', List.contains_eq_mem, decide_eq_false_iff_not, beq_eq_false_iff_ne, ne_eq] at this
    obtain ⟨⟨⟨⟨⟨⟨t1, t2⟩, t3⟩, t4⟩, t5⟩, t6⟩, t7⟩ := this
    exact ⟨T.free x t3 t4 t5 t6 t7, by rw [T.builtins x t2]; exact bootT_ok _ (mem_of_lookup t1)⟩
  · have := e _ (mem_of_lookup q)
    simp only [Bool.and_eq_true, beq_iff_eq, Bool.not_eq_true', List.contains_eq_mem, decide_eq_false_iff_not, beq_eq_false_iff_ne, ne_eq] at this
    obtain ⟨⟨⟨⟨⟨⟨t1, t2⟩, t3⟩, t4⟩, t5⟩, t6⟩, t7⟩ := this
    exact ⟨T.free x t3 t4 t5 t6 t7, by rw [T.builtins x t2]; exact bootT_ok _ (mem_of_lookup t1)⟩
  · have := e _ (mem_of_lookup q)
    have this : (decide (x = clsName c) && cs.contains c) = true := this
    rw [Bool.and_eq_true] at this
    have hx := of_decide_eq_true this.1
    subst hx
    obtain ⟨y1, y2⟩ := Y c (.tail _ (List.contains_iff_mem.mp this.2))
    exact ⟨by rw [T.g.eq_nsMap]; exact y1, y2⟩

theorem ints_rel {P : Params} {h : Heap} {a : Addr} : ∀ {vs : List Value} {xs : List Int}, WellAll P h vs (ofPys (xs.map PyData.int)) → VsRel [a] (xs.map .int) vs
  | vs, [], w => by cases w; rfl
  | vs, x :: xs, w => by
    cases w with
    | cons h1 h2 => cases h1; exact ⟨_, _, rfl, ⟨_, rfl⟩, ints_rel h2⟩

theorem law_ends {p prog : Program} {w : World} {loose : List Str} {mean mean' : ExcName → Option Value} {cl : Str → Option Addr} {mg mb : Str → Option Value} {nm : Nat → List Str} {F : Nat → Option MFun} {g : GMap} {s₁ : Shared} {fa a : Addr} {xs : List Int} {c : ClaimW} {args : List WData} {W k f : Nat} {h : MH} {cs : List Nat}
    (T : Top p loose mean mg mb s₁.heap) (e : chkG cs p loose nm F g = true) (Y : ExSays cs s₁.heap) (hg : s₁.gens = #[]) (hf : g.lookup (Str.ofString "law") = some (.fn f)) (hmg : mg (Str.ofString "law") = some (.ref fa))
    (wl : Well w.params s₁.heap (.ref a) (ofPy (.list (xs.map PyData.int)))) (hk : k < 500) (hl : xs.length ≤ 63)
    (run : callN F W k f [.ref 0] [.ro (xs.map .int)] = .ok (.bool true) h)
    (hn : ∀ cls, c.raises args cls = false) (hp : c.post args (.bool true) args = true) :
    codeAny (model prog w) callerA (.call (.ref fa) { pos := [.ref a] }) (GoodWG c cl mean' args s₁) s₁ := by
  have G := gok_of T e Y
  obtain ⟨fa', q1, q2⟩ := G.fn _ _ hf
  rw [hmg] at q1
  cases q1
  cases wl with
  | list ho hw =>
    rename_i vs
    have rel : HRel s₁.heap [a] [.ro (xs.map .int)] s₁.heap := by
      refine ⟨rfl, ?_, fun _ _ e => e, ?_, ?_⟩
      · intro i j b h1 h2
        cases i <;> cases j <;> simp at h1 h2 ⊢
      · intro i b o h1 h2
        cases i with
        | zero =>
          simp at h1 h2; subst h1 h2
          exact ⟨by simp [lim]; omega, vs, _, ho, ints_rel hw⟩
        | succ i => simp at h1
      · intro i b o h1 h2 h3
        cases i with
        | zero => simp at h1 h2; subst h1 h2; cases h3
        | succ i => simp at h1
    refine codeAny_mono (callN_sound (W := W) G k f fa [.ref 0] [.ref a] [a] _ s₁ callerA ⟨[], fun _ _ => False⟩ (fun v s' => v = .bool true ∧ (∀ b o, s₁.heap.get? b = some o → s'.heap.get? b = some o) ∧ s'.os = s₁.os ∧ s'.gens = s₁.gens) q2 ⟨rfl, ?_, ?_⟩ rel rfl (fun _ h => nomatch h) ⟨_, _, rfl, ⟨a, rfl, rfl⟩, rfl⟩ ?_) ?_
    · show 301 + k < 900; omega
    · show 4 + 10 * k + 100 < 9900; omega
    · rw [run]
      intro μ' u h' tk r st hv
      exact ⟨hv, r.base, rfl, rfl⟩
    · intro r s' q
      cases r with
      | error e => exact q.elim
      | ok r =>
        cases r with
        | ret v =>
          obtain ⟨rfl, h1, h2, h3⟩ := q
          exact GoodW.toG ⟨.inl ⟨_, _, [], rfl, hn, .bool true, hp, fun _ => ⟨List.nodup_nil, fun _ h => nomatch h⟩⟩, h1, h2, by rw [h3, hg]⟩
        | _ => exact q.elim

end Mine


-- part MiniWp
set_option maxRecDepth 4000
set_option linter.unusedVariables false
set_option linter.unusedSimpArgs false
namespace Mine
open PySem (Operator UnaryOp CmpOp)

noncomputable def Wp {α : Type} (r : Res α) (P : α → MH → Prop) : Prop :=
  match r with
  | .ok a h => P a h
  | .exc _ _ => False
  | .stuck => False

@[simp] theorem Wp_ok {α : Type} (a : α) (h : MH) (P : α → MH → Prop) : Wp (.ok a h) P = P a h := rfl
@[simp] theorem Wp_exc {α : Type} (c : Nat) (h : MH) (P : α → MH → Prop) : Wp (.exc c h) P = False := rfl
@[simp] theorem Wp_stuck {α : Type} (P : α → MH → Prop) : Wp .stuck P = False := rfl
@[simp] theorem Wp_bind {α β : Type} (r : Res α) (f : α → MH → Res β) (P : β → MH → Prop) : Wp (r.bind f) P = Wp r (fun a h => Wp (f a h) P) := by cases r <;> rfl
theorem Wp.mono {α : Type} {r : Res α} {P Q : α → MH → Prop} (h : Wp r P) (g : ∀ a h, P a h → Q a h) : Wp r Q := by
  cases r <;> first | exact g _ _ h | exact False.elim h
theorem Wp.get {α : Type} {r : Res α} {P : α → MH → Prop} (h : Wp r P) : ∃ a h', r = .ok a h' ∧ P a h' := by
  cases r <;> first | exact ⟨_, _, rfl, h⟩ | exact False.elim h
@[simp] theorem Wp_opt {α : Type} (o : Option α) (h : MH) (P : α → MH → Prop) : Wp (Res.opt o h) P = (match o with | some a => P a h | none => False) := by cases o <;> rfl
@[simp] theorem Wp_ite {α : Type} (c : Prop) [Decidable c] (a b : Res α) (P : α → MH → Prop) : Wp (if c then a else b) P = (if c then Wp a P else Wp b P) := by split <;> rfl

section
variable (C : Cf) (W : Nat) (ρ : Rho) (h : MH)

@[simp] theorem E_const (v : Val) : (sem C (.const v)).E ρ h = .ok v h := rfl
@[simp] theorem E_gconst (v : Val) : (sem C (.gconst v)).E ρ h = .ok v h := rfl
@[simp] theorem E_loc (i : Nat) : (sem C (.loc i)).E ρ h = locV i ρ h := rfl
@[simp] theorem E_bin (op : Operator) (a b : MExpr) : (sem C (.bin op a b)).E ρ h = ((sem C a).E ρ h).bind fun v h => ((sem C b).E ρ h).bind fun w h => binV h op v w := rfl
@[simp] theorem E_un (op : UnaryOp) (a : MExpr) : (sem C (.un op a)).E ρ h = ((sem C a).E ρ h).bind fun v h => unV h op v := rfl
@[simp] theorem T_not (a : MExpr) : (sem C (.un .Not a)).T ρ h = ((sem C a).T ρ h).bind fun b h => .ok (!b) h := rfl
@[simp] theorem E_and (a b : MExpr) : (sem C (.and a b)).E ρ h = ((sem C a).E ρ h).bind fun v h => (Res.opt (truthyV h v) h).bind fun t h => if t then (sem C b).E ρ h else .ok v h := rfl
@[simp] theorem T_and (a b : MExpr) : (sem C (.and a b)).T ρ h = ((sem C a).T ρ h).bind fun t h => if t then (sem C b).T ρ h else .ok false h := rfl
@[simp] theorem E_or (a b : MExpr) : (sem C (.or a b)).E ρ h = ((sem C a).E ρ h).bind fun v h => (Res.opt (truthyV h v) h).bind fun t h => if t then .ok v h else (sem C b).E ρ h := rfl
@[simp] theorem T_or (a b : MExpr) : (sem C (.or a b)).T ρ h = ((sem C a).T ρ h).bind fun t h => if t then .ok true h else (sem C b).T ρ h := rfl
@[simp] theorem E_cmp (op : CmpOp) (a b : MExpr) : (sem C (.cmp op a b)).E ρ h = ((sem C a).E ρ h).bind fun v h => ((sem C b).E ρ h).bind fun w h => (Res.opt (cmpV h op v w) h).bind fun t h => .ok (.bool t) h := rfl
@[simp] theorem T_cmp (op : CmpOp) (a b : MExpr) : (sem C (.cmp op a b)).T ρ h = ((sem C a).E ρ h).bind fun v h => ((sem C b).E ρ h).bind fun w h => Res.opt (cmpV h op v w) h := rfl
@[simp] theorem E_cmp2 (o₁ o₂ : CmpOp) (a b c : MExpr) : (sem C (.cmp2 o₁ o₂ a b c)).E ρ h = ((sem C a).E ρ h).bind fun v h => ((sem C b).E ρ h).bind fun w h => (Res.opt (cmpV h o₁ v w) h).bind fun t h =>
        if t then ((sem C c).E ρ h).bind fun x h => (Res.opt (cmpV h o₂ w x) h).bind fun t h => .ok (.bool t) h else .ok (.bool false) h := rfl
@[simp] theorem T_cmp2 (o₁ o₂ : CmpOp) (a b c : MExpr) : (sem C (.cmp2 o₁ o₂ a b c)).T ρ h = ((sem C a).E ρ h).bind fun v h => ((sem C b).E ρ h).bind fun w h => (Res.opt (cmpV h o₁ v w) h).bind fun t h =>
        if t then ((sem C c).E ρ h).bind fun x h => Res.opt (cmpV h o₂ w x) h else .ok false h := rfl
@[simp] theorem E_isinst (t : Ty) (a : MExpr) : (sem C (.isinst t a)).E ρ h = ((sem C a).E ρ h).bind fun v h => (Res.opt (isInstV h t v) h).bind fun b h => .ok (.bool b) h := rfl
@[simp] theorem T_isinst (t : Ty) (a : MExpr) : (sem C (.isinst t a)).T ρ h = ((sem C (.isinst t a)).E ρ h).bind fun v h => Res.opt (truthyV h v) h := rfl
@[simp] theorem E_call (f : Nat) (args : MExpr) : (sem C (.call f args)).E ρ h = ((sem C args).Es ρ h).bind fun vs h => C f vs h := rfl
@[simp] theorem T_call (f : Nat) (args : MExpr) : (sem C (.call f args)).T ρ h = ((sem C (.call f args)).E ρ h).bind fun v h => Res.opt (truthyV h v) h := rfl
@[simp] theorem E_bi (b : BI) (args : MExpr) : (sem C (.bi b args)).E ρ h = ((sem C args).Es ρ h).bind fun vs h => biV h b vs := rfl
@[simp] theorem T_bi (b : BI) (args : MExpr) : (sem C (.bi b args)).T ρ h = ((sem C (.bi b args)).E ρ h).bind fun v h => Res.opt (truthyV h v) h := rfl
@[simp] theorem E_lrange (a : MExpr) : (sem C (.lrange a)).E ρ h = ((sem C a).E ρ h).bind lrangeV := rfl
@[simp] theorem E_meth (m : Me) (o args : MExpr) : (sem C (.meth m o args)).E ρ h = ((sem C o).E ρ h).bind fun v h => if meOk h m v then ((sem C args).Es ρ h).bind fun vs h => meV h m v vs else .stuck := rfl
@[simp] theorem E_lst (es : MExpr) : (sem C (.lst es)).E ρ h = ((sem C es).Es ρ h).bind newList := rfl
@[simp] theorem E_tup (es : MExpr) : (sem C (.tup es)).E ρ h = ((sem C es).Es ρ h).bind fun vs h => if vs.length ≤ lim then newObj (.tup vs) h else .stuck := rfl
@[simp] theorem E_sub (o i : MExpr) : (sem C (.sub o i)).E ρ h = ((sem C o).E ρ h).bind fun v h => ((sem C i).E ρ h).bind fun w h => Res.opt (subV h v w) h := rfl
@[simp] theorem T_sub (o i : MExpr) : (sem C (.sub o i)).T ρ h = ((sem C (.sub o i)).E ρ h).bind fun v h => Res.opt (truthyV h v) h := rfl
@[simp] theorem T_loc (i : Nat) : (sem C (.loc i)).T ρ h = ((sem C (.loc i)).E ρ h).bind fun v h => Res.opt (truthyV h v) h := rfl
@[simp] theorem T_const (v : Val) : (sem C (.const v)).T ρ h = Res.opt (truthyV h v) h := rfl
@[simp] theorem E_slice (o lo hi : MExpr) : (sem C (.slice o lo hi)).E ρ h = ((sem C o).E ρ h).bind fun v h => (((sem C lo).Es ρ h).bind fun a h => Res.opt (optOf a) h).bind fun a h => (((sem C hi).Es ρ h).bind fun b h => Res.opt (optOf b) h).bind fun b h => sliceV h v a b := rfl
@[simp] theorem E_srev (o : MExpr) : (sem C (.srev o)).E ρ h = ((sem C o).E ρ h).bind fun v h => srevV h v := rfl
@[simp] theorem E_comp (elt tgt it cond : MExpr) : (sem C (.comp elt tgt it cond)).E ρ h = ((sem C it).I ρ h).bind fun s h => (compLoop (compStep tgt (sem C cond).T (sem C elt).E ρ) s.2 s.1 h).bind newList := rfl
@[simp] theorem Es_nil : (sem C .nil).Es ρ h = .ok [] h := rfl
@[simp] theorem Es_cons (a b : MExpr) : (sem C (.cons a b)).Es ρ h = ((sem C a).E ρ h).bind fun v h => ((sem C b).Es ρ h).bind fun vs h => .ok (v :: vs) h := rfl
@[simp] theorem I_irange (a : MExpr) : (sem C (.irange a)).I ρ h = ((sem C a).E ρ h).bind irangeV := rfl
@[simp] theorem I_irange2 (a b : MExpr) : (sem C (.irange2 a b)).I ρ h = ((sem C a).E ρ h).bind fun v h => ((sem C b).E ρ h).bind fun w h => irange2V v w h := rfl
@[simp] theorem I_iobj (a : MExpr) : (sem C (.iobj a)).I ρ h = ((sem C a).E ρ h).bind fun v h => Res.opt (srcOf h v) h := rfl

noncomputable def thenX (r : MStmt) (p : MFlow × Rho) (h : MH) : Res (MFlow × Rho) := match p.1 with
      | .next => exec C W r p.2 h
      | .ret v => .ok (.ret v, p.2) h
@[simp] theorem X_cons' (s r : MStmt) : exec C W (.cons s r) ρ h = (exec C W s ρ h).bind (thenX C W r) := rfl
@[simp] theorem thenX_next (r : MStmt) : thenX C W r (.next, ρ) h = exec C W r ρ h := rfl
@[simp] theorem thenX_ret (r : MStmt) (v : Val) : thenX C W r (.ret v, ρ) h = .ok (.ret v, ρ) h := rfl
@[simp] theorem X_nil : exec C W .nil ρ h = .ok (.next, ρ) h := rfl
@[simp] theorem X_assign (i : Nat) (e : MExpr) : exec C W (.assign i e) ρ h = ((sem C e).E ρ h).bind fun v h => .ok (.next, ρ.set i (some v)) h := rfl
@[simp] theorem X_asub (o i e : MExpr) : exec C W (.asub o i e) ρ h = ((sem C e).E ρ h).bind fun v h => ((sem C o).E ρ h).bind fun ov h => ((sem C i).E ρ h).bind fun iv h => (asubV h ov iv v).bind fun _ h => .ok (.next, ρ) h := rfl
@[simp] theorem X_atup (ts : List Nat) (e : MExpr) : exec C W (.atup ts e) ρ h = ((sem C e).E ρ h).bind fun v h => (Res.opt (tupV h v) h).bind fun vs h => (Res.opt (bindS ts vs ρ) h).bind fun ρ' h => .ok (.next, ρ') h := rfl
@[simp] theorem X_expr (e : MExpr) : exec C W (.expr e) ρ h = ((sem C e).E ρ h).bind fun _ h => .ok (.next, ρ) h := rfl
@[simp] theorem X_ifs (c : MExpr) (t e : MStmt) : exec C W (.ifs c t e) ρ h = ((sem C c).T ρ h).bind fun b h => if b then exec C W t ρ h else exec C W e ρ h := rfl
@[simp] theorem X_fors (tgt it : MExpr) (b : MStmt) : exec C W (.fors tgt it b) ρ h = ((sem C it).I ρ h).bind fun s h => forLoop (forStep tgt (exec C W b)) s.2 s.1 ρ h := rfl
@[simp] theorem X_whiles (c : MExpr) (b : MStmt) : exec C W (.whiles c b) ρ h = whileLoop (sem C c).T (exec C W b) W ρ h := rfl
@[simp] theorem X_ret (e : MExpr) : exec C W (.ret e) ρ h = ((sem C e).E ρ h).bind fun v h => .ok (.ret v, ρ) h := rfl
@[simp] theorem X_raise (c : Nat) : exec C W (.raise c) ρ h = .exc c h := rfl
@[simp] theorem X_tryx (b : MStmt) (hs : List (Nat × Bool × Val)) : exec C W (.tryx b hs) ρ h = tryV hs ρ (exec C W b ρ h) := rfl
end

noncomputable def retOf (p : MFlow × Rho) (h : MH) : Res Val := match p.1 with
          | .ret v => .ok v h
          | .next => .ok .none h
@[simp] theorem retOf_ret (v : Val) (ρ : Rho) (h : MH) : retOf (.ret v, ρ) h = .ok v h := rfl
@[simp] theorem retOf_next (ρ : Rho) (h : MH) : retOf (.next, ρ) h = .ok .none h := rfl
theorem callN_def {F : Nat → Option MFun} {W n f : Nat} {vs : List Val} {h : MH} {d : MFun} (e : F f = some d) (l : vs.length = d.np) : callN F W (n + 1) f vs h = (exec (callN F W n) W d.body (vs.map some ++ List.replicate (d.ns - d.np) none) h).bind retOf := by
  show (match F f with | some d => _ | none => _) = _
  rw [e]; simp only [if_pos l]; rfl

/- the leaves -/
section
variable (h : MH)
@[simp] theorem locV_zero (v : Val) (ρ : Rho) : locV 0 (some v :: ρ) h = .ok v h := rfl
@[simp] theorem locV_succ (i : Nat) (o : Option Val) (ρ : Rho) : locV (i + 1) (o :: ρ) h = locV i ρ h := rfl
@[simp] theorem bin_add (a b : Int) : binV h .Add (.int a) (.int b) = .ok (.int (a + b)) h := rfl
@[simp] theorem bin_sub (a b : Int) : binV h .Sub (.int a) (.int b) = .ok (.int (a - b)) h := rfl
@[simp] theorem bin_mul (a b : Int) : binV h .Mult (.int a) (.int b) = if mulOk a b then .ok (.int (a * b)) h else .stuck := rfl
@[simp] theorem bin_fd (a b : Int) : binV h .FloorDiv (.int a) (.int b) = if 0 < b ∧ b < 1073741824 then .ok (.int (a / b)) h else .stuck := rfl
@[simp] theorem bin_mod (a b : Int) : binV h .Mod (.int a) (.int b) = if 0 < b then .ok (.int (a % b)) h else .stuck := rfl
@[simp] theorem bin_addR (i j : Nat) : binV h .Add (.ref i) (.ref j) = addRR h i j := rfl
@[simp] theorem bin_mulR (i : Nat) (n : Int) : binV h .Mult (.ref i) (.int n) = mulRI h i n := rfl
@[simp] theorem cmp_eqI (a b : Int) : cmpV h .Eq (.int a) (.int b) = some (a == b) := rfl
@[simp] theorem cmp_neI (a b : Int) : cmpV h .NotEq (.int a) (.int b) = some (!(a == b)) := rfl
@[simp] theorem cmp_lt (a b : Int) : cmpV h .Lt (.int a) (.int b) = some (decide (a < b)) := rfl
@[simp] theorem cmp_le (a b : Int) : cmpV h .LtE (.int a) (.int b) = some (decide (a ≤ b)) := rfl
@[simp] theorem cmp_gt (a b : Int) : cmpV h .Gt (.int a) (.int b) = some (decide (a > b)) := rfl
@[simp] theorem cmp_ge (a b : Int) : cmpV h .GtE (.int a) (.int b) = some (decide (a ≥ b)) := rfl
@[simp] theorem truthy_bool (b : Bool) : truthyV h (.bool b) = some b := rfl
@[simp] theorem truthy_int (i : Int) : truthyV h (.int i) = some (i != 0) := rfl
@[simp] theorem mulOk_r (a : Int) (n : Nat) : mulOk a (no_index (OfNat.ofNat n)) = (decide (a.natAbs < 9223372036854775808) || decide ((no_index (OfNat.ofNat n) : Int).natAbs < 9223372036854775808)) := rfl
end

/- loops -/
theorem compLoop_pure {f : Val → MH → Res (Option Val)} {ck : MH → Bool} {h : MH} (o : Val → Option Val) : ∀ (xs : List Val), (∀ x ∈ xs, f x h = .ok (o x) h) → ck h = true → compLoop f ck xs h = .ok (xs.filterMap o) h
  | [], _, _ => rfl
  | x :: xs, hf, hc => by
    rw [compLoop, hf x (.head _)]
    simp only [Res.bind_ok, hc, if_true]
    rw [compLoop_pure o xs (fun y hy => hf y (.tail _ hy)) hc]
    simp only [Res.bind_ok, List.filterMap_cons]
    cases o x <;> rfl

theorem forLoop_inv {f : Val → Rho → MH → Res (MFlow × Rho)} {ck : MH → Bool} {P : MFlow × Rho → MH → Prop} (I : List Val → Rho → MH → Prop)
    (turn : ∀ x rest ρ h, I (x :: rest) ρ h → Wp (f x ρ h) fun p h' => match p.1 with | .next => ck h' = true ∧ I rest p.2 h' | .ret v => P (.ret v, p.2) h')
    (fin : ∀ ρ h, I [] ρ h → P (.next, ρ) h) : ∀ (xs : List Val) (ρ : Rho) (h : MH), I xs ρ h → Wp (forLoop f ck xs ρ h) P
  | [], ρ, h, i => fin _ _ i
  | x :: xs, ρ, h, i => by
    simp only [forLoop, Wp_bind]
    refine (turn x xs ρ h i).mono fun p h1 q => ?_
    obtain ⟨fl, ρ1⟩ := p
    cases fl with
    | next => simp only at q ⊢; rw [if_pos q.1]; exact forLoop_inv I turn fin xs _ h1 q.2
    | ret v => exact q

theorem rangeVals_eq : ∀ (n : Nat) (a : Int), rangeVals a n = (List.range n).map fun i => .int (a + i)
  | 0, a => rfl
  | n + 1, a => by
    rw [rangeVals, rangeVals_eq n, List.range_succ_eq_map]
    simp only [List.map_cons, List.map_map, Int.natCast_zero, Int.add_zero, List.cons.injEq, true_and]
    refine List.map_congr_left fun i _ => ?_
    simp only [Function.comp, Val.int.injEq]; omega

end Mine


-- part MiniTr
set_option maxRecDepth 4000
set_option linter.unusedVariables false
set_option linter.unusedSimpArgs false
namespace Mine

inductive Tr where
  | int (i : Int) | lst (l : List Tr) | tup (l : List Tr)

mutual
noncomputable def Rd (b : Nat) (h : MH) : Tr → Val → Prop
  | .int i, v => v = .int i
  | .lst ts, v => ∃ a rs, v = .ref a ∧ b ≤ a ∧ h[a]? = some (.list rs) ∧ RdL b h ts rs
  | .tup ts, v => ∃ a rs, v = .ref a ∧ b ≤ a ∧ h[a]? = some (.tup rs) ∧ RdL b h ts rs
noncomputable def RdL (b : Nat) (h : MH) : List Tr → List Val → Prop
  | [], vs => vs = []
  | t :: ts, vs => ∃ w ws, vs = w :: ws ∧ Rd b h t w ∧ RdL b h ts ws
end

theorem get_pre {h h' : MH} (p : h <+: h') {i : Nat} {o : MObj} (e : h[i]? = some o) : h'[i]? = some o := by
  obtain ⟨t, rfl⟩ := p
  rw [List.getElem?_append_left (List.getElem?_eq_some_iff.mp e).1]; exact e
theorem len_pre {h h' : MH} (p : h <+: h') : h.length ≤ h'.length := p.length_le
theorem pre_app (h t : MH) : h <+: h ++ t := ⟨t, rfl⟩
theorem pre_set {h h' : MH} (p : h <+: h') {i : Nat} {o : MObj} (hi : h.length ≤ i) : h <+: h'.set i o := by
  obtain ⟨t, rfl⟩ := p
  rw [List.set_append_right _ _ hi]; exact ⟨_, rfl⟩

mutual
theorem Rd.mono' {b b' : Nat} {h h' : MH} (hb : b' ≤ b) (p : ∀ i o, b ≤ i → h[i]? = some o → h'[i]? = some o) : ∀ {t : Tr} {v : Val}, Rd b h t v → Rd b' h' t v
  | .int i, v, r => by rw [Rd] at r ⊢; exact r
  | .lst ts, v, r => by
    rw [Rd] at r ⊢
    obtain ⟨a, rs, h1, h2, h3, h4⟩ := r
    exact ⟨a, rs, h1, Nat.le_trans hb h2, p _ _ h2 h3, RdL.mono' hb p h4⟩
  | .tup ts, v, r => by
    rw [Rd] at r ⊢
    obtain ⟨a, rs, h1, h2, h3, h4⟩ := r
    exact ⟨a, rs, h1, Nat.le_trans hb h2, p _ _ h2 h3, RdL.mono' hb p h4⟩
theorem RdL.mono' {b b' : Nat} {h h' : MH} (hb : b' ≤ b) (p : ∀ i o, b ≤ i → h[i]? = some o → h'[i]? = some o) : ∀ {ts : List Tr} {vs : List Val}, RdL b h ts vs → RdL b' h' ts vs
  | [], vs, r => by rw [RdL] at r ⊢; exact r
  | t :: ts, vs, r => by
    rw [RdL] at r ⊢
    obtain ⟨w, ws, h1, h2, h3⟩ := r
    exact ⟨w, ws, h1, Rd.mono' hb p h2, RdL.mono' hb p h3⟩
end
theorem RdL.nil {b : Nat} {h : MH} : RdL b h [] [] := by rw [RdL]
theorem RdL.cons {b : Nat} {h : MH} {t : Tr} {ts : List Tr} {v : Val} {vs : List Val} (r : Rd b h t v) (rs : RdL b h ts vs) : RdL b h (t :: ts) (v :: vs) := by rw [RdL]; exact ⟨v, vs, rfl, r, rs⟩
theorem RdL.length {b : Nat} {h : MH} : ∀ {ts : List Tr} {vs : List Val}, RdL b h ts vs → vs.length = ts.length
  | [], vs, r => by rw [RdL] at r; rw [r]; rfl
  | t :: ts, vs, r => by rw [RdL] at r; obtain ⟨w, ws, rfl, _, h3⟩ := r; simp [h3.length]
theorem Rd.list {b : Nat} {h : MH} {ts : List Tr} {v : Val} (r : Rd b h (.lst ts) v) : ∃ a rs, v = .ref a ∧ b ≤ a ∧ h[a]? = some (.list rs) ∧ RdL b h ts rs := by rw [Rd] at r; exact r
theorem Rd.tuple {b : Nat} {h : MH} {ts : List Tr} {v : Val} (r : Rd b h (.tup ts) v) : ∃ a rs, v = .ref a ∧ b ≤ a ∧ h[a]? = some (.tup rs) ∧ RdL b h ts rs := by rw [Rd] at r; exact r
theorem Rd.mkList {b a : Nat} {h : MH} {ts : List Tr} {rs : List Val} (hb : b ≤ a) (e : h[a]? = some (.list rs)) (r : RdL b h ts rs) : Rd b h (.lst ts) (.ref a) := by rw [Rd]; exact ⟨a, rs, rfl, hb, e, r⟩
theorem Rd.int {b : Nat} {h : MH} {i : Int} {v : Val} (r : Rd b h (.int i) v) : v = .int i := by rw [Rd] at r; exact r
theorem Rd.mkInt {b : Nat} {h : MH} {i : Int} : Rd b h (.int i) (.int i) := by rw [Rd]

noncomputable def tI (xs : List Int) : Tr := .lst (xs.map .int)
noncomputable def tII (xss : List (List Int)) : Tr := .lst (xss.map tI)
theorem RdL.ints {b : Nat} {h : MH} : ∀ {xs : List Int} {vs : List Val}, RdL b h (xs.map .int) vs ↔ vs = xs.map .int
  | [], vs => by rw [List.map_nil, RdL]; rfl
  | x :: xs, vs => by
    rw [List.map_cons, RdL]
    constructor
    · rintro ⟨w, ws, rfl, h2, h3⟩; rw [h2.int, RdL.ints.mp h3]; rfl
    · rintro rfl; exact ⟨_, _, rfl, .mkInt, RdL.ints.mpr rfl⟩
theorem Rd.mkInts {b a : Nat} {h : MH} {xs : List Int} (hb : b ≤ a) (e : h[a]? = some (.list (xs.map .int))) : Rd b h (tI xs) (.ref a) := .mkList hb e (RdL.ints.mpr rfl)

theorem seqOf_list {h : MH} {i : Nat} {xs : List Val} (e : h[i]? = some (.list xs)) : seqOf h i = some (true, xs) := by simp [seqOf, e]
theorem seqOf_tup {h : MH} {i : Nat} {xs : List Val} (e : h[i]? = some (.tup xs)) : seqOf h i = some (false, xs) := by simp [seqOf, e]
theorem eqV_seq {m : Nat} {h : MH} {i j : Nat} {k : Bool} {xs ys : List Val} (hi : seqOf h i = some (k, xs)) (hj : seqOf h j = some (k, ys)) (hl : xs.length = ys.length) : eqV (m + 1) h (.ref i) (.ref j) = eqL (eqV m h) xs ys := by
  rw [eqV]; simp only [hi, hj, hl, if_true]

mutual
noncomputable def Tr.dep : Tr → Nat
  | .int _ => 0
  | .lst l => depL l + 1
  | .tup l => depL l + 1
noncomputable def depL : List Tr → Nat
  | [] => 0
  | t :: ts => max t.dep (depL ts)
end
mutual
theorem eq_same {h : MH} {b b' : Nat} : ∀ {t : Tr} {n : Nat} {v w : Val}, t.dep ≤ n → Rd b h t v → Rd b' h t w → eqV n h v w = some true
  | .int i, n, v, w, _, r, q => by rw [r.int, q.int]; cases n <;> simp [eqV, eqP]
  | .lst ts, n, v, w, hd, r, q => by
    obtain ⟨a, rs, rfl, _, h3, h4⟩ := r.list
    obtain ⟨a', rs', rfl, _, h3', h4'⟩ := q.list
    rw [Tr.dep] at hd
    obtain ⟨m, rfl⟩ : ∃ m, n = m + 1 := ⟨n - 1, by omega⟩
    rw [eqV_seq (seqOf_list h3) (seqOf_list h3') (by rw [h4.length, h4'.length])]
    exact eqL_same (by omega) h4 h4'
  | .tup ts, n, v, w, hd, r, q => by
    obtain ⟨a, rs, rfl, _, h3, h4⟩ := r.tuple
    obtain ⟨a', rs', rfl, _, h3', h4'⟩ := q.tuple
    rw [Tr.dep] at hd
    obtain ⟨m, rfl⟩ : ∃ m, n = m + 1 := ⟨n - 1, by omega⟩
    rw [eqV_seq (seqOf_tup h3) (seqOf_tup h3') (by rw [h4.length, h4'.length])]
    exact eqL_same (by omega) h4 h4'
theorem eqL_same {h : MH} {b b' : Nat} : ∀ {ts : List Tr} {n : Nat} {vs ws : List Val}, depL ts ≤ n → RdL b h ts vs → RdL b' h ts ws → eqL (eqV n h) vs ws = some true
  | [], n, vs, ws, _, r, q => by rw [RdL] at r q; subst r q; rfl
  | t :: ts, n, vs, ws, hd, r, q => by
    rw [RdL] at r q
    obtain ⟨w, ws, rfl, h2, h3⟩ := r
    obtain ⟨w', ws', rfl, h2', h3'⟩ := q
    rw [depL] at hd
    have e1 := eq_same (n := n) (by omega) h2 h2'
    have e2 := eqL_same (n := n) (by omega) h3 h3'
    simp [eqL, e1, e2]
end
theorem eq_same8 {h : MH} {t : Tr} {v w : Val} {b b' : Nat} (hd : t.dep ≤ 8) (r : Rd b h t v) (q : Rd b' h t w) : cmpV h .Eq v w = some true := eq_same hd r q

theorem depL_ints : ∀ xs : List Int, depL (xs.map .int) = 0
  | [] => rfl
  | x :: xs => by simp [depL, Tr.dep, depL_ints xs]
theorem dep_tI (xs : List Int) : (tI xs).dep = 1 := by simp [tI, Tr.dep, depL_ints]
theorem dep_tII (xss : List (List Int)) : (tII xss).dep ≤ 2 := by
  have : ∀ l : List (List Int), depL (l.map tI) ≤ 1 := by
    intro l; induction l with
    | nil => simp [depL]
    | cons a l ih => simp [depL, dep_tI]; omega
  simp only [tII, Tr.dep]; have := this xss; omega

theorem idx_in {i : Int} {n : Nat} (h0 : 0 ≤ i) (h1 : i < n) : idxOf i n = some i.toNat := by
  unfold idxOf; rw [if_pos h0, if_pos h1]
theorem sub_ref {h : MH} {i : Nat} {b : Bool} {xs : List Val} {k : Int} {v : Val} (hs : seqOf h i = some (b, xs)) (h0 : 0 ≤ k) (hv : xs[k.toNat]? = some v) : subV h (.ref i) (.int k) = some v := by
  have hl : k.toNat < xs.length := (List.getElem?_eq_some_iff.mp hv).1
  simp only [subV, hs, Option.bind_some]
  rw [idx_in h0 (by omega)]
  exact hv
theorem getD_map {xs : List Int} {k : Nat} (h : k < xs.length) : (xs.map Val.int)[k]? = some (.int (xs.getD k 0)) := by
  simp [h]
theorem newList_ok {xs : List Val} {h : MH} (hl : xs.length ≤ 1048576) : newList xs h = .ok (.ref h.length) (h ++ [.list xs]) := by
  unfold newList; rw [if_pos (by simpa [lim] using hl)]; rfl
theorem srcOf_list {h : MH} {i : Nat} {xs : List Val} (e : h[i]? = some (.list xs)) : srcOf h (.ref i) = some (xs, fun h' => decide (h'[i]? = some (.list xs))) := by simp [srcOf, e]
theorem ck_list {h0 : MH} {i : Nat} {xs : List Val} (e : h0[i]? = some (.list xs)) : ∀ h, h0 <+: h → (decide (h[i]? = some (.list xs))) = true := fun h p => by simp [get_pre p e]

noncomputable def tlS (s : MStmt) : MStmt := match s with | .cons _ r => r | _ => .nil
noncomputable def dropS : Nat → MStmt → MStmt
  | 0, s => s
  | n + 1, s => dropS n (tlS s)

end Mine


-- part MDefs
set_option maxRecDepth 4000
namespace Mine
open PySem
noncomputable def f_law_whole : MFun := ⟨1, 1,
  (.cons (.ret (.and (.isinst .int (.loc 0)) (.un .Not (.isinst .bool (.loc 0)))))
  .nil)⟩
noncomputable def f_law_cell : MFun := ⟨2, 2,
  (.cons (.ifs (.cmp .Lt (.loc 1) (.bi .len (.cons (.loc 0) .nil)))
  (.cons (.ret (.sub (.loc 0) (.loc 1)))
  .nil)
  .nil)
  (.cons (.ifs (.cmp .Eq (.bi .len (.cons (.loc 0) .nil)) (.const (.int 0)))
  (.cons (.ret (.bin .Mult (.loc 1) (.const (.int 7919))))
  .nil)
  .nil)
  (.cons (.ret (.bin .Mod (.bin .Add (.bin .Mult (.sub (.loc 0) (.bin .Mod (.bin .Mult (.loc 1) (.const (.int 7))) (.bi .len (.cons (.loc 0) .nil)))) (.const (.int 48271))) (.bin .Mult (.loc 1) (.const (.int 7919)))) (.const (.int 2147483647))))
  .nil)))⟩
noncomputable def f_law_draws : MFun := ⟨2, 4,
  (.cons (.assign 2 (.lst .nil))
  (.cons (.fors (.loc 3) (.irange (.loc 1))
  (.cons (.assign 0 (.bin .Mod (.bin .Add (.bin .Mult (.loc 0) (.const (.int 48271))) (.const (.int 12345))) (.const (.int 2147483647))))
  (.cons (.expr (.meth .append (.loc 2) (.cons (.bin .FloorDiv (.loc 0) (.const (.int 16))) .nil)))
  .nil)))
  (.cons (.ret (.loc 2))
  .nil)))⟩
noncomputable def f_is_number : MFun := ⟨1, 1,
  (.cons (.ret (.and (.isinst .int (.loc 0)) (.un .Not (.isinst .bool (.loc 0)))))
  .nil)⟩
noncomputable def f_need_bids : MFun := ⟨1, 2,
  (.cons (.fors (.loc 1) (.iobj (.loc 0))
  (.cons (.ifs (.or (.un .Not (.call 1 (.cons (.loc 1) .nil))) (.un .Not (.cmp2 .LtE .LtE (.const (.int 0)) (.loc 1) (.gconst (.int 1000000000000)))))
  (.cons (.raise 4)
  .nil)
  .nil)
  .nil))
  .nil)⟩
noncomputable def f_need_row : MFun := ⟨2, 2,
  (.cons (.ifs (.cmp .NotEq (.bi .len (.cons (.loc 0) .nil)) (.loc 1))
  (.cons (.raise 3)
  .nil)
  .nil)
  (.cons (.expr (.call 3 (.cons (.loc 0) .nil)))
  .nil))⟩
noncomputable def f_look : MFun := ⟨1, 2,
  (.cons (.ifs (.cmp .Eq (.bi .len (.cons (.loc 0) .nil)) (.const (.int 0)))
  (.cons (.raise 1)
  .nil)
  .nil)
  (.cons (.ifs (.or (.cmp .Gt (.bi .len (.cons (.loc 0) .nil)) (.gconst (.int 9))) (.cmp .Gt (.bi .len (.cons (.sub (.loc 0) (.const (.int 0))) .nil)) (.gconst (.int 40))))
  (.cons (.raise 2)
  .nil)
  .nil)
  (.cons (.fors (.loc 1) (.iobj (.loc 0))
  (.cons (.expr (.call 4 (.cons (.loc 1) (.cons (.bi .len (.cons (.sub (.loc 0) (.const (.int 0))) .nil)) .nil))))
  .nil))
  .nil)))⟩
end Mine


-- part L07F
set_option maxRecDepth 4000
namespace Mine
open PySem
noncomputable def f_number_of : MFun := ⟨1, 2,
  (.cons (.ifs (.or (.un .Not (.cmp2 .LtE .LtE (.const (.int 1)) (.bi .len (.cons (.loc 0) .nil)) (.gconst (.int 13)))) (.un .Not (.bi .all (.cons (.comp (.cmp .In (.loc 1) (.gconst (.str [48, 49, 50, 51, 52, 53, 54, 55, 56, 57]))) (.loc 1) (.iobj (.loc 0)) (.const (.bool true))) .nil))))
  (.cons (.raise 8)
  .nil)
  .nil)
  (.cons (.ifs (.and (.cmp .Eq (.sub (.loc 0) (.const (.int 0))) (.const (.str [48]))) (.cmp .NotEq (.loc 0) (.const (.str [48]))))
  (.cons (.raise 8)
  .nil)
  .nil)
  (.cons (.ret (.bi .int (.cons (.loc 0) .nil)))
  .nil)))⟩
noncomputable def f_row_of : MFun := ⟨1, 2,
  (.cons (.ifs (.cmp .Eq (.loc 0) (.const (.str [])))
  (.cons (.ret (.lst .nil))
  .nil)
  .nil)
  (.cons (.ret (.comp (.call 19 (.cons (.loc 1) .nil)) (.loc 1) (.iobj (.meth .split (.loc 0) (.cons (.const (.str [32])) .nil))) (.const (.bool true))))
  .nil))⟩
noncomputable def f_read : MFun := ⟨1, 4,
  (.cons (.assign 1 (.meth .split (.loc 0) (.cons (.const (.str [10])) .nil)))
  (.cons (.ifs (.cmp .NotEq (.sub (.loc 1) (.un .USub (.const (.int 1)))) (.const (.str [])))
  (.cons (.raise 8)
  .nil)
  .nil)
  (.cons (.assign 2 (.comp (.call 20 (.cons (.loc 3) .nil)) (.loc 3) (.iobj (.slice (.loc 1) .nil (.cons (.un .USub (.const (.int 1))) .nil))) (.const (.bool true))))
  (.cons (.expr (.call 5 (.cons (.loc 2) .nil)))
  (.cons (.ret (.loc 2))
  .nil)))))⟩
noncomputable def f_law_number : MFun := ⟨1, 3,
  (.cons (.ifs (.or (.cmp .Eq (.loc 0) (.const (.str []))) (.or (.cmp .Gt (.bi .len (.cons (.loc 0) .nil)) (.const (.int 13))) (.and (.cmp .Eq (.sub (.loc 0) (.const (.int 0))) (.const (.str [48]))) (.cmp .Gt (.bi .len (.cons (.loc 0) .nil)) (.const (.int 1))))))
  (.cons (.ret (.const .none))
  .nil)
  .nil)
  (.cons (.assign 1 (.const (.int 0)))
  (.cons (.fors (.loc 2) (.iobj (.loc 0))
  (.cons (.ifs (.cmp .NotIn (.loc 2) (.const (.str [48, 49, 50, 51, 52, 53, 54, 55, 56, 57])))
  (.cons (.ret (.const .none))
  .nil)
  .nil)
  (.cons (.assign 1 (.bin .Add (.bin .Mult (.loc 1) (.const (.int 10))) (.meth .sidx (.const (.str [48, 49, 50, 51, 52, 53, 54, 55, 56, 57])) (.cons (.loc 2) .nil))))
  .nil)))
  (.cons (.ret (.loc 1))
  .nil))))⟩
noncomputable def f_law_word : MFun := ⟨1, 3,
  (.cons (.assign 1 (.lst (.cons (.const (.str [48])) (.cons (.const (.str [49])) (.cons (.const (.str [55])) (.cons (.const (.str [49, 48])) (.cons (.const (.str [57, 57])) (.cons (.const (.str [51, 48, 53])) (.cons (.const (.str [49, 48, 48, 48, 48, 48, 48, 48, 48, 48, 48, 48, 48])) (.cons (.const (.str [57, 57, 57, 57, 57, 57, 57, 57, 57, 57, 57, 57])) (.cons (.const (.str [49, 48, 48, 48, 48, 48, 48, 48, 48, 48, 48, 48, 49])) (.cons (.const (.str [57, 57, 57, 57, 57, 57, 57, 57, 57, 57, 57, 57, 57])) .nil))))))))))))
  (.cons (.assign 2 (.lst (.cons (.const (.str [48, 48])) (.cons (.const (.str [48, 49])) (.cons (.const (.str [45, 49])) (.cons (.const (.str [43, 49])) (.cons (.const (.str [49, 46, 48])) (.cons (.const (.str [49, 50, 51, 52, 53, 54, 55, 56, 57, 48, 49, 50, 51, 52])) (.cons (.const (.str [])) (.cons (.const (.str [97])) (.cons (.const (.str [49, 95, 48])) (.cons (.const (.str [48, 120, 49])) (.cons (.const (.str [49, 101, 51])) (.cons (.const (.str [49, 48, 48, 48, 48, 48, 48, 48, 48, 48, 48, 48, 48, 48])) (.cons (.const (.str [79])) (.cons (.const (.str [108])) (.cons (.const (.str [45, 32, 49])) (.cons (.const (.str [49, 44, 48])) (.cons (.const (.str [9, 49])) (.cons (.const (.str [48, 48, 48, 48, 48, 48, 48, 48, 48, 48, 48, 48, 48])) (.cons (.const (.str [84, 114, 117, 101])) (.cons (.const (.str [49, 32])) .nil))))))))))))))))))))))
  (.cons (.ifs (.cmp .Gt (.bin .Mod (.loc 0) (.const (.int 12))) (.const (.int 0)))
  (.cons (.ret (.sub (.loc 1) (.bin .Mod (.bin .FloorDiv (.loc 0) (.const (.int 12))) (.const (.int 8)))))
  .nil)
  .nil)
  (.cons (.ifs (.cmp .Eq (.bin .Mod (.bin .FloorDiv (.loc 0) (.const (.int 12))) (.const (.int 6))) (.const (.int 0)))
  (.cons (.ret (.sub (.loc 1) (.bin .Add (.const (.int 8)) (.bin .Mod (.bin .FloorDiv (.loc 0) (.const (.int 72))) (.const (.int 2))))))
  .nil)
  .nil)
  (.cons (.ret (.sub (.loc 2) (.bin .Mod (.bin .FloorDiv (.loc 0) (.const (.int 72))) (.const (.int 20)))))
  .nil)))))⟩
noncomputable def f_law_sign : MFun := ⟨1, 2,
  (.cons (.assign 1 (.const (.str [32, 33, 34, 35, 36, 38, 39, 40, 41, 42, 43, 44, 45, 46, 47, 48, 49, 50, 51, 52, 53, 54, 55, 56, 57, 58, 59, 60, 61, 62, 63, 64, 65, 66, 67, 68, 69, 70, 71, 72, 73, 74, 75, 76, 77, 78, 79, 80, 81, 82, 83, 84, 85, 86, 87, 88, 89, 90, 91, 92, 93, 94, 95, 96])))
  (.cons (.assign 1 (.bin .Add (.loc 1) (.const (.str [97, 98, 99, 100, 101, 102, 103, 104, 105, 106, 107, 108, 109, 110, 111, 112, 113, 114, 115, 116, 117, 118, 119, 120, 121, 122, 123, 124, 125, 126, 9, 10]))))
  (.cons (.ret (.sub (.loc 1) (.bin .Mod (.loc 0) (.const (.int 96)))))
  .nil)))⟩
noncomputable def f_law_row : MFun := ⟨1, 5,
  (.cons (.assign 1 (.lst .nil))
  (.cons (.assign 2 (.const (.str [])))
  (.cons (.ifs (.cmp .Eq (.loc 0) (.const (.str [])))
  (.cons (.ret (.loc 1))
  .nil)
  .nil)
  (.cons (.fors (.loc 3) (.iobj (.bin .Add (.loc 0) (.const (.str [32]))))
  (.cons (.ifs (.cmp .Eq (.loc 3) (.const (.str [32])))
  (.cons (.assign 4 (.call 47 (.cons (.loc 2) .nil)))
  (.cons (.ifs (.cmp .Is (.loc 4) (.const .none))
  (.cons (.ret (.const .none))
  .nil)
  .nil)
  (.cons (.expr (.meth .append (.loc 1) (.cons (.loc 4) .nil)))
  (.cons (.assign 2 (.const (.str [])))
  .nil))))
  (.cons (.assign 2 (.bin .Add (.loc 2) (.loc 3)))
  .nil))
  .nil))
  (.cons (.ret (.loc 1))
  .nil)))))⟩
noncomputable def f_law_lines : MFun := ⟨1, 4,
  (.cons (.assign 1 (.lst .nil))
  (.cons (.assign 2 (.const (.str [])))
  (.cons (.fors (.loc 3) (.iobj (.loc 0))
  (.cons (.ifs (.cmp .Eq (.loc 3) (.const (.str [10])))
  (.cons (.expr (.meth .append (.loc 1) (.cons (.call 50 (.cons (.loc 2) .nil)) .nil)))
  (.cons (.assign 2 (.const (.str [])))
  .nil))
  (.cons (.assign 2 (.bin .Add (.loc 2) (.loc 3)))
  .nil))
  .nil))
  (.cons (.ifs (.cmp .NotEq (.loc 2) (.const (.str [])))
  (.cons (.ret (.lst (.cons (.const .none) .nil)))
  .nil)
  .nil)
  (.cons (.ret (.loc 1))
  .nil)))))⟩
noncomputable def f_law_due : MFun := ⟨1, 3,
  (.cons (.ifs (.cmp .In (.const .none) (.loc 0))
  (.cons (.ret (.const (.str [78, 111, 84, 101, 120, 116])))
  .nil)
  .nil)
  (.cons (.ifs (.cmp .Eq (.loc 0) (.lst .nil))
  (.cons (.ret (.const (.str [78, 111, 80, 101, 111, 112, 108, 101])))
  .nil)
  .nil)
  (.cons (.ifs (.or (.cmp .Gt (.bi .len (.cons (.loc 0) .nil)) (.const (.int 9))) (.cmp .Gt (.bi .len (.cons (.sub (.loc 0) (.const (.int 0))) .nil)) (.const (.int 40))))
  (.cons (.ret (.const (.str [84, 111, 111, 77, 97, 110, 121])))
  .nil)
  .nil)
  (.cons (.fors (.loc 1) (.iobj (.loc 0))
  (.cons (.ifs (.cmp .NotEq (.bi .len (.cons (.loc 1) .nil)) (.bi .len (.cons (.sub (.loc 0) (.const (.int 0))) .nil)))
  (.cons (.ret (.const (.str [85, 110, 101, 118, 101, 110])))
  .nil)
  .nil)
  (.cons (.fors (.loc 2) (.iobj (.loc 1))
  (.cons (.ifs (.cmp .Gt (.loc 2) (.const (.int 1000000000000)))
  (.cons (.ret (.const (.str [66, 97, 100, 66, 105, 100])))
  .nil)
  .nil)
  .nil))
  .nil)))
  (.cons (.ret (.loc 0))
  .nil)))))⟩
noncomputable def f07_law_told : MFun := ⟨1, 1,
  (.cons (.tryx (.cons (.ret (.call 21 (.cons (.loc 0) .nil)))
  .nil) [(8, false, (.str [78, 111, 84, 101, 120, 116])), (1, false, (.str [78, 111, 80, 101, 111, 112, 108, 101])), (2, false, (.str [84, 111, 111, 77, 97, 110, 121])), (3, false, (.str [85, 110, 101, 118, 101, 110])), (4, false, (.str [66, 97, 100, 66, 105, 100]))])
  .nil)⟩
noncomputable def f_law_by_base : MFun := ⟨1, 1,
  (.cons (.tryx (.cons (.expr (.call 21 (.cons (.loc 0) .nil)))
  .nil) [(0, true, (.bool true))])
  (.cons (.ret (.const (.bool false)))
  .nil))⟩
noncomputable def f_law_kinds : MFun := ⟨1, 3,
  (.cons (.ifs (.un .Not (.isinst .list (.loc 0)))
  (.cons (.ret (.isinst .str (.loc 0)))
  .nil)
  .nil)
  (.cons (.fors (.loc 1) (.iobj (.loc 0))
  (.cons (.ifs (.un .Not (.isinst .list (.loc 1)))
  (.cons (.ret (.const (.bool false)))
  .nil)
  .nil)
  (.cons (.fors (.loc 2) (.iobj (.loc 1))
  (.cons (.ifs (.un .Not (.call 22 (.cons (.loc 2) .nil)))
  (.cons (.ret (.const (.bool false)))
  .nil)
  .nil)
  .nil))
  .nil)))
  (.cons (.ret (.const (.bool true)))
  .nil)))⟩
noncomputable def f_law : MFun := ⟨1, 11,
  (.cons (.assign 1 (.bin .Mod (.call 23 (.cons (.loc 0) (.cons (.const (.int 1)) .nil))) (.const (.int 4))))
  (.cons (.ifs (.cmp .Eq (.bin .Mod (.bin .FloorDiv (.call 23 (.cons (.loc 0) (.cons (.const (.int 1)) .nil))) (.const (.int 4))) (.const (.int 16))) (.const (.int 1)))
  (.cons (.assign 1 (.bin .Add (.const (.int 39)) (.bin .Mod (.bin .FloorDiv (.call 23 (.cons (.loc 0) (.cons (.const (.int 1)) .nil))) (.const (.int 64))) (.const (.int 4)))))
  .nil)
  .nil)
  (.cons (.assign 2 (.const (.str [])))
  (.cons (.fors (.loc 3) (.irange (.bin .Mod (.call 23 (.cons (.loc 0) (.cons (.const (.int 0)) .nil))) (.const (.int 12))))
  (.cons (.assign 4 (.call 24 (.cons (.call 23 (.cons (.loc 0) (.cons (.bin .Add (.const (.int 4)) (.loc 3)) .nil))) (.cons (.bin .Add (.loc 1) (.const (.int 2))) .nil))))
  (.cons (.assign 5 (.bin .Sub (.bin .Add (.loc 1) (.bi .int (.cons (.cmp .Eq (.bin .Mod (.sub (.loc 4) (.const (.int 0))) (.const (.int 11))) (.const (.int 1))) .nil))) (.bi .int (.cons (.and (.cmp .Eq (.bin .Mod (.sub (.loc 4) (.const (.int 0))) (.const (.int 11))) (.const (.int 2))) (.cmp .Gt (.loc 1) (.const (.int 0)))) .nil))))
  (.cons (.assign 6 (.comp (.call 48 (.cons (.loc 10) .nil)) (.loc 10) (.iobj (.slice (.loc 4) (.cons (.const (.int 1)) .nil) (.cons (.bin .Add (.loc 5) (.const (.int 1))) .nil))) (.const (.bool true))))
  (.cons (.assign 2 (.bin .Add (.bin .Add (.loc 2) (.meth .join (.const (.str [32])) (.cons (.loc 6) .nil))) (.const (.str [10]))))
  .nil)))))
  (.cons (.ifs (.cmp .Eq (.bin .Mod (.call 23 (.cons (.loc 0) (.cons (.const (.int 2)) .nil))) (.const (.int 8))) (.const (.int 1)))
  (.cons (.assign 2 (.slice (.loc 2) .nil (.cons (.un .USub (.const (.int 1))) .nil)))
  .nil)
  .nil)
  (.cons (.ifs (.cmp .Eq (.bin .Mod (.bin .FloorDiv (.call 23 (.cons (.loc 0) (.cons (.const (.int 2)) .nil))) (.const (.int 8))) (.const (.int 3))) (.const (.int 1)))
  (.cons (.assign 7 (.bin .Mod (.call 23 (.cons (.loc 0) (.cons (.const (.int 3)) .nil))) (.bin .Add (.bi .len (.cons (.loc 2) .nil)) (.const (.int 1)))))
  (.cons (.assign 2 (.bin .Add (.bin .Add (.slice (.loc 2) .nil (.cons (.loc 7) .nil)) (.call 49 (.cons (.bin .FloorDiv (.call 23 (.cons (.loc 0) (.cons (.const (.int 2)) .nil))) (.const (.int 24))) .nil))) (.slice (.loc 2) (.cons (.loc 7) .nil) .nil)))
  .nil))
  .nil)
  (.cons (.assign 8 (.call 31 (.cons (.loc 2) .nil)))
  (.cons (.assign 9 (.call 39 (.cons (.call 51 (.cons (.loc 2) .nil)) .nil)))
  (.cons (.ret (.and (.call 52 (.cons (.loc 8) .nil)) (.and (.cmp .Eq (.loc 8) (.loc 9)) (.cmp .Eq (.call 43 (.cons (.loc 2) .nil)) (.isinst .str (.loc 9))))))
  .nil)))))))))⟩
noncomputable def tab : List (Nat × MFun) := [(1, f_is_number), (3, f_need_bids), (4, f_need_row), (5, f_look), (19, f_number_of), (20, f_row_of), (21, f_read), (22, f_law_whole), (23, f_law_cell), (24, f_law_draws), (47, f_law_number), (48, f_law_word), (49, f_law_sign), (50, f_law_row), (51, f_law_lines), (39, f_law_due), (31, f07_law_told), (43, f_law_by_base), (52, f_law_kinds), (78, f_law)]
noncomputable def F (f : Nat) : Option MFun := tab.lookup f
end Mine


-- part L07G
set_option maxRecDepth 4000
namespace Mine
open PySem
noncomputable def nm : Nat → List Str
  | 1 => [(PySem.Str.ofString "thing")]
  | 3 => [(PySem.Str.ofString "row"), (PySem.Str.ofString "amount")]
  | 4 => [(PySem.Str.ofString "row"), (PySem.Str.ofString "size")]
  | 5 => [(PySem.Str.ofString "bids"), (PySem.Str.ofString "row")]
  | 19 => [(PySem.Str.ofString "word")]
  | 20 => [(PySem.Str.ofString "line")]
  | 21 => [(PySem.Str.ofString "text"), (PySem.Str.ofString "lines"), (PySem.Str.ofString "bids")]
  | 22 => [(PySem.Str.ofString "_law_found")]
  | 23 => [(PySem.Str.ofString "_law_script"), (PySem.Str.ofString "_law_k")]
  | 24 => [(PySem.Str.ofString "_law_cell_here"), (PySem.Str.ofString "_law_many"), (PySem.Str.ofString "_law_found"), (PySem.Str.ofString "_law_k")]
  | 47 => [(PySem.Str.ofString "_law_word_here"), (PySem.Str.ofString "_law_total"), (PySem.Str.ofString "_law_sign_here")]
  | 48 => [(PySem.Str.ofString "_law_cell_here"), (PySem.Str.ofString "_law_some"), (PySem.Str.ofString "_law_odd")]
  | 49 => [(PySem.Str.ofString "_law_cell_here"), (PySem.Str.ofString "_law_some")]
  | 50 => [(PySem.Str.ofString "_law_line"), (PySem.Str.ofString "_law_row_here"), (PySem.Str.ofString "_law_word_here"), (PySem.Str.ofString "_law_sign_here"), (PySem.Str.ofString "_law_one")]
  | 51 => [(PySem.Str.ofString "_law_text"), (PySem.Str.ofString "_law_rows"), (PySem.Str.ofString "_law_line"), (PySem.Str.ofString "_law_sign_here")]
  | 39 => [(PySem.Str.ofString "_law_rows"), (PySem.Str.ofString "_law_row_here"), (PySem.Str.ofString "_law_one")]
  | 31 => [(PySem.Str.ofString "_law_text")]
  | 43 => [(PySem.Str.ofString "_law_text")]
  | 52 => [(PySem.Str.ofString "_law_found"), (PySem.Str.ofString "_law_row_here"), (PySem.Str.ofString "_law_one")]
  | 78 => [(PySem.Str.ofString "_law_script"), (PySem.Str.ofString "_law_goods"), (PySem.Str.ofString "_law_text"), (PySem.Str.ofString "_law_k"), (PySem.Str.ofString "_law_draws_here"), (PySem.Str.ofString "_law_many"), (PySem.Str.ofString "_law_words"), (PySem.Str.ofString "_law_place"), (PySem.Str.ofString "_law_found"), (PySem.Str.ofString "_law_due_here")]
  | _ => []
noncomputable def exs : List Nat := [0, 1, 2, 3, 4, 8]
noncomputable def gm : GMap := [((PySem.Str.ofString "is_number"), .fn 1),
  ((PySem.Str.ofString "need_bids"), .fn 3),
  ((PySem.Str.ofString "need_row"), .fn 4),
  ((PySem.Str.ofString "look"), .fn 5),
  ((PySem.Str.ofString "number_of"), .fn 19),
  ((PySem.Str.ofString "row_of"), .fn 20),
  ((PySem.Str.ofString "read"), .fn 21),
  ((PySem.Str.ofString "_law_whole"), .fn 22),
  ((PySem.Str.ofString "_law_cell"), .fn 23),
  ((PySem.Str.ofString "_law_draws"), .fn 24),
  ((PySem.Str.ofString "_law_number"), .fn 47),
  ((PySem.Str.ofString "_law_word"), .fn 48),
  ((PySem.Str.ofString "_law_sign"), .fn 49),
  ((PySem.Str.ofString "_law_row"), .fn 50),
  ((PySem.Str.ofString "_law_lines"), .fn 51),
  ((PySem.Str.ofString "_law_due"), .fn 39),
  ((PySem.Str.ofString "_law_told"), .fn 31),
  ((PySem.Str.ofString "_law_by_base"), .fn 43),
  ((PySem.Str.ofString "_law_kinds"), .fn 52),
  ((PySem.Str.ofString "law"), .fn 78),
  ((PySem.Str.ofString "MOST_PEOPLE"), .const (.int 9)),
  ((PySem.Str.ofString "MOST_GOODS"), .const (.int 40)),
  ((PySem.Str.ofString "MOST_BID"), .const (.int 1000000000000)),
  ((PySem.Str.ofString "FIGURES"), .const (.str [48, 49, 50, 51, 52, 53, 54, 55, 56, 57])),
  ((PySem.Str.ofString "MOST_FIGURES"), .const (.int 13)),
  ((PySem.Str.ofString "len"), .bi "len"),
  ((PySem.Str.ofString "all"), .bi "all"),
  ((PySem.Str.ofString "isinstance"), .bi "isinstance"),
  ((PySem.Str.ofString "int"), .ty "int"),
  ((PySem.Str.ofString "str"), .ty "str"),
  ((PySem.Str.ofString "list"), .ty "list"),
  ((PySem.Str.ofString "bool"), .ty "bool"),
  ((PySem.Str.ofString "range"), .ty "range"),
  ((PySem.Str.ofString "ValueError"), .ty "ValueError"),
  ((PySem.Str.ofString "SplitError"), .cls 0),
  ((PySem.Str.ofString "NoPeople"), .cls 1),
  ((PySem.Str.ofString "TooMany"), .cls 2),
  ((PySem.Str.ofString "Uneven"), .cls 3),
  ((PySem.Str.ofString "BadBid"), .cls 4),
  ((PySem.Str.ofString "NoText"), .cls 8)]
end Mine


-- part LibA
set_option maxRecDepth 4000
set_option linter.unusedVariables false
set_option linter.unusedSimpArgs false
namespace Mine

theorem forLoop_pure {f : Val → Rho → MH → Res (MFlow × Rho)} {ck : MH → Bool} {h : MH} (P : Rho → Prop) (hc : ck h = true) : ∀ (xs : List Val) (ρ : Rho), (∀ x ∈ xs, ∀ ρ, P ρ → ∃ ρ', f x ρ h = .ok (.next, ρ') h ∧ P ρ') → P ρ →
    ∃ ρ', forLoop f ck xs ρ h = .ok (.next, ρ') h ∧ P ρ'
  | [], ρ, _, p => ⟨ρ, rfl, p⟩
  | x :: xs, ρ, hf, p => by
    obtain ⟨ρ1, e, p1⟩ := hf x (.head _) ρ p
    obtain ⟨ρ2, e2, p2⟩ := forLoop_pure P hc xs ρ1 (fun y hy => hf y (.tail _ hy)) p1
    refine ⟨ρ2, ?_, p2⟩
    rw [forLoop, e]
    simp only [Res.bind_ok, hc, if_true, e2]

theorem irange_ok {m : Nat} {h : MH} (hm : m ≤ 1000000) : irangeV (.int m) h = .ok (rangeVals 0 m, fun _ => true) h := by
  simp [irangeV, rangeOk, lim, show ((m : Int) ≤ 1048576) by omega, show (-1048576 ≤ (m : Int)) by omega]

section
variable {F : Nat → Option MFun} {W n : Nat} {h : MH} {b : Nat}

noncomputable def cellI (xs : List Int) (k : Int) : Int :=
  if k < xs.length then xs.getD k.toNat 0 else if xs.length = 0 then k * 7919 else (xs.getD (k * 7 % xs.length).toNat 0 * 48271 + k * 7919) % 2147483647

theorem cell_eq (hF : F 23 = some f_law_cell) {i : Nat} {xs : List Int} {k : Int} (hi : seqOf h i = some (true, xs.map .int)) (hk : 0 ≤ k) : callN F W (n + 1) 23 [.ref i, .int k] h = .ok (.int (cellI xs k)) h := by
  rw [callN_def hF rfl]
  simp [f_law_cell, biV, bi1, bi2, biL, biSum, biList, onRef, hi, mulOk]
  unfold cellI
  by_cases h1 : k < xs.length
  · simp [h1, sub_ref hi hk (getD_map (xs := xs) (k := k.toNat) (by omega))]
  · simp [h1]
    by_cases h2 : xs = []
    · subst h2; simp [biV, bi1, bi2, biL, biSum, biList, onRef, hi]
    · have : 0 < xs.length := List.length_pos_iff.mpr h2
      have h3 : 0 < (xs.length : Int) := by omega
      have h4 := Int.emod_nonneg (k * 7) (b := xs.length) (by omega)
      have h5 := Int.emod_lt_of_pos (k * 7) (b := xs.length) (by omega)
      have h6 : ¬ (xs.length : Int) = 0 := by omega
      simp [biV, bi1, bi2, biL, biSum, biList, onRef, hi, mulOk, h2, h3, h6, this, sub_ref hi h4 (getD_map (xs := xs) (by omega))]

noncomputable def drawsI : Nat → Int → List Int
  | 0, _ => []
  | n + 1, c => (c * 48271 + 12345) % 2147483647 / 16 :: drawsI n ((c * 48271 + 12345) % 2147483647)
theorem drawsI_len : ∀ n c, (drawsI n c).length = n
  | 0, _ => rfl
  | n + 1, c => by simp [drawsI, drawsI_len n]
theorem draws_eq (hF : F 24 = some f_law_draws) {c : Int} {m : Nat} (hm : m ≤ 1000000) : callN F W (n + 1) 24 [.int c, .int m] h = .ok (.ref h.length) (h ++ [.list ((drawsI m c).map .int)]) := by
  rw [callN_def hF rfl]
  have key : ∀ (M : Int) (m : Nat) (a : Int) (c : Int) (acc : List Int) (o : Option Val), acc.length + m ≤ 1000000 →
      ∃ ρ : Option Val × Option Val, forLoop (forStep (.loc 3) (exec (callN F W n) W (.cons (.assign 0 (.bin .Mod (.bin .Add (.bin .Mult (.loc 0) (.const (.int 48271))) (.const (.int 12345))) (.const (.int 2147483647))))
        (.cons (.expr (.meth .append (.loc 2) (.cons (.bin .FloorDiv (.loc 0) (.const (.int 16))) .nil))) .nil)))) (fun _ => true) (rangeVals a m) [some (.int c), some (.int M), some (.ref h.length), o] (h ++ [.list (acc.map .int)])
        = .ok (.next, [ρ.1, some (.int M), some (.ref h.length), ρ.2]) (h ++ [.list ((acc ++ drawsI m c).map .int)]) := by
    intro M m
    induction m with
    | zero => intro a c acc o hl; exact ⟨(some (.int c), o), by simp [rangeVals, forLoop, drawsI]⟩
    | succ m ih =>
      intro a c acc o hl
      obtain ⟨ρ, e⟩ := ih (a + 1) ((c * 48271 + 12345) % 2147483647) (acc ++ [(c * 48271 + 12345) % 2147483647 / 16]) (some (.int a)) (by simp; omega)
      refine ⟨ρ, ?_⟩
      rw [rangeVals, forLoop]
      simp [forStep, bindTgt, mulOk, meOk, isLV, isListAt, meV, meApp, onL, arg1, lim]
      rw [if_pos (by omega)]
      simp
      simpa [drawsI] using e
  obtain ⟨ρ, e⟩ := key m m 0 c [] none (by simp; omega)
  simp [f_law_draws, newList, newObj, lim, irange_ok hm]
  simp at e
  rw [e]
  simp

noncomputable def bidI (c k : Int) : Int := if k = 0 then c % 3 else if k = 1 then c % 100 else if k = 2 then c % 1000000000001 else 1000000000000 - c % 3 * (c / 3 % 2 * 499999999999 + 1)
theorem whole_int (hF : F 22 = some f_law_whole) {c : Int} : callN F W (n + 1) 22 [.int c] h = .ok (.bool true) h := by
  rw [callN_def hF rfl]
  simp [f_law_whole, isInstV, unV]
noncomputable def wI (row heap : List Int) : Int := (heap.map fun y => row.getD y.toNat 0).sum

end
end Mine


-- part LibB
set_option maxRecDepth 4000
set_option linter.unusedVariables false
set_option linter.unusedSimpArgs false
namespace Mine
section
variable {F : Nat → Option MFun} {W n : Nat} {h : MH} {b : Nat}

/-- bids as the laws build them: p people, m goods -/
structure Bids (bids : List (List Int)) (p m : Nat) : Prop where
  np : bids.length = p
  row : ∀ r ∈ bids, r.length = m ∧ ∀ x ∈ r, 0 ≤ x ∧ x ≤ 1000000000000

structure Heaps (heaps : List (List Int)) (p m : Nat) : Prop where
  np : heaps.length = p
  good : ∀ z ∈ heaps, (∀ g ∈ z, 0 ≤ g ∧ g < m) ∧ z.length ≤ 1000
end
end Mine


-- part LibC
set_option maxRecDepth 4000
set_option linter.unusedVariables false
set_option linter.unusedSimpArgs false
namespace Mine

section
variable {F : Nat → Option MFun} {W n : Nat} {h : MH} {b : Nat}

noncomputable def gainsI (bids heaps : List (List Int)) (sums : List Int) (p : Nat) : List Int := (List.range p).map fun k => wI (bids.getD k []) (heaps.getD k []) * p - sums.getD k 0

noncomputable def rowI (xs : List Int) (first : Int) (m : Nat) (kind : Int) (i : Nat) : List Int := (List.range m).map fun j : Nat => bidI (cellI xs (first + m * i + j)) kind
noncomputable def bidsI (xs : List Int) (first : Int) (p m : Nat) (kind : Int) : List (List Int) := (List.range p).map (rowI xs first m kind)
end
end Mine


-- part LibD
set_option maxRecDepth 4000
set_option linter.unusedVariables false
set_option linter.unusedSimpArgs false
namespace Mine

noncomputable def HP (h : MH) (hs : List (List Int)) (t : MH) : MH := h ++ (hs.map fun z => MObj.list (z.map .int)) ++ t
structure GoodH (hs : List (List Int)) (p m L : Nat) : Prop where
  np : hs.length = p
  good : ∀ z ∈ hs, (∀ g ∈ z, 0 ≤ g ∧ g < (m : Int)) ∧ z.length ≤ L
section
variable {F : Nat → Option MFun} {W n : Nat} {h : MH} {b : Nat}
end
end Mine


-- part LibE
set_option maxRecDepth 4000
set_option linter.unusedVariables false
set_option linter.unusedSimpArgs false
namespace Mine

/-- a fresh list at h.length, under making -/
noncomputable def Acc (h : MH) (ts : List Tr) (h' : MH) : Prop := ∃ acc t, h' = h ++ .list acc :: t ∧ RdL (h.length + 1) h' ts acc
section
variable {F : Nat → Option MFun} {W n : Nat} {h : MH} {b : Nat}

noncomputable def gI (bids heaps : List (List Int)) (sums : List Int) (p : Nat) (i j : Nat) : Int := wI (bids.getD i []) (heaps.getD j []) * p - sums.getD j 0
noncomputable def tP (i j : Nat) : Tr := .tup [.int i, .int j]
noncomputable def envI (bids heaps : List (List Int)) (sums : List Int) (p i k : Nat) : List Tr := ((List.range k).filter fun j => decide (gI bids heaps sums p i j > gI bids heaps sums p i i)).map (tP i)
noncomputable def pairsI (bids heaps : List (List Int)) (sums : List Int) (p k : Nat) : List Tr := (List.range k).flatMap fun i => envI bids heaps sums p i p
end
end Mine


-- part LibG
set_option maxRecDepth 4000
set_option linter.unusedVariables false
set_option linter.unusedSimpArgs false
namespace Mine

/-- the bid of person i for good j -/
noncomputable def bA (bids : List (List Int)) (i j : Nat) : Int := (bids.getD i []).getD j 0
noncomputable def winI (bids : List (List Int)) (j : Nat) : Nat → Nat
  | 0 => 0
  | k + 1 => if bA bids k j > bA bids (winI bids j k) j then k else winI bids j k
/-- the heaps behind the first k goods -/
noncomputable def hpI (bids : List (List Int)) (p k : Nat) : List (List Int) := (List.range p).map fun i => ((List.range k).filter fun j => winI bids j p == i).map fun (j : Nat) => (j : Int)
noncomputable def worI (bids hs : List (List Int)) (p : Nat) : List Int := (List.range p).map fun i => wI (bids.getD i []) (hs.getD i [])
noncomputable def sumI' (bids hs : List (List Int)) (p : Nat) : List Int := (worI bids hs p).map fun own => own * p - (worI bids hs p).sum
/-- a deal told by in_heaps: its heaps lie apart, at h -/
noncomputable def Told (h h' : MH) (hs : List (List Int)) (sums : List Int) (r : Val) : Prop :=
  ∃ t s a, h' = HP h hs (.list ((List.range hs.length).map fun k => .ref (h.length + k)) :: t) ∧ r = .ref a ∧ h'[a]? = some (.tup [.ref (h.length + hs.length), .ref s]) ∧
    h'[s]? = some (.list (sums.map .int)) ∧ h.length + hs.length < s ∧ h.length + hs.length < a
section
variable {F : Nat → Option MFun} {W n : Nat} {h : MH} {b : Nat}

end
end Mine


-- part LibH
set_option maxRecDepth 4000
set_option linter.unusedVariables false
set_option linter.unusedSimpArgs false
namespace Mine

/-- how often each good stands there -/
noncomputable def cntI (m : Nat) (gs : List Int) : List Int := (List.range m).map fun (j : Nat) => ((gs.count (j : Int) : Nat) : Int)
section
variable {F : Nat → Option MFun} {W n : Nat} {h : MH} {b : Nat}

noncomputable def NoEnvy (bids heaps : List (List Int)) (sums : List Int) (p : Nat) : Prop := ∀ i, i < p → ∀ j, j < p → gI bids heaps sums p i j ≤ gI bids heaps sums p i i
end
end Mine


-- part LibI
set_option maxRecDepth 4000
set_option linter.unusedVariables false
set_option linter.unusedSimpArgs false
namespace Mine

section
variable {F : Nat → Option MFun} {W n : Nat} {h : MH} {b : Nat}

noncomputable def apK (hs : List (List Int)) : Nat → List (List Int)
  | 0 => hs
  | k + 1 => (apK hs k).set k ((apK hs k).getD k [] ++ [(k : Int)])
end

end Mine


-- part LibQ
set_option maxRecDepth 4000
set_option linter.unusedVariables false
set_option linter.unusedSimpArgs false
namespace Mine

noncomputable def upd {α : Type} (f : Nat → α) (k : Nat) (x : α) : Nat → α := fun j => if j = k then x else f j
noncomputable def cntB (S : Nat → Bool) (m : Nat) : Nat := ((List.range m).filter S).length
structure Ownr (n k : Nat) (ow : Nat → Nat) : Prop where
  zero : ow 0 = k
  pos : 0 < k
  le : k ≤ n
  lt : ∀ j, 1 ≤ j → j ≤ n → ow j < k
  inj : ∀ j j', j ≤ n → j' ≤ n → ow j ≠ 0 → ow j = ow j' → j = j'
  free : ∃ j, 1 ≤ j ∧ j ≤ n ∧ ow j = 0
/-- the slack of row i at column j -/
noncomputable abbrev slk (c : Nat → Nat → Int) (u v : Nat → Int) (i j : Nat) : Int := c i j - u i - v j

structure Tree (n k : Nat) (c : Nat → Nat → Int) (ow : Nat → Nat) (q t : Nat) (S : Nat → Bool) (l : Nat → Option Int) (ca : Nat → Nat) (u v : Nat → Int) (rk : Nat → Nat) : Prop where
  q_le : q ≤ n
  q_new : S q = false
  q_pos : 0 < t → q ≠ 0
  S_own : ∀ j, j ≤ n → S j = true → ow j ≠ 0
  first : t = 0 → q = 0 ∧ (∀ j, S j = false) ∧ (∀ j, l j = none)
  zero : 0 < t → S 0 = true
  tight : ∀ j, 1 ≤ j → j ≤ n → ow j ≠ 0 → c (ow j) j = u (ow j) + v j
  feas : ∀ i j, 1 ≤ i → (i < k ∨ (i = k ∧ 0 < t)) → 1 ≤ j → j ≤ n → u i + v j ≤ c i j
  least : 0 < t → ∀ j, 1 ≤ j → j ≤ n → S j = false → ca j ≤ n ∧ S (ca j) = true ∧ l j = some (slk c u v (ow (ca j)) j) ∧ ∀ s, s ≤ n → S s = true → slk c u v (ow (ca j)) j ≤ slk c u v (ow s) j
  path : ∀ j, 1 ≤ j → j ≤ n → (S j = true ∨ j = q) → ca j ≤ n ∧ S (ca j) = true ∧ c (ow (ca j)) j = u (ow (ca j)) + v j ∧ rk (ca j) < rk j
  rkq : rk q = t
  rkS : ∀ j, j ≤ n → S j = true → rk j < t
  cnt : cntB S (n + 1) = t

/-- what the first inner loop leaves at an unseen column -/
noncomputable def lw (l : Nat → Option Int) (d : Nat → Int) (j : Nat) : Int := match l j with | none => d j | some x => if d j < x then d j else x
noncomputable def lc (l : Nat → Option Int) (ca : Nat → Nat) (d : Nat → Int) (q : Nat) (j : Nat) : Nat := match l j with | none => q | some x => if d j < x then q else ca j

end Mine


-- part LibR
set_option maxRecDepth 4000
set_option linter.unusedVariables false
set_option linter.unusedSimpArgs false
namespace Mine

noncomputable def arr (n : Nat) (f : Nat → Val) : List Val := (List.range n).map f
noncomputable abbrev iv (u : Nat → Int) : Nat → Val := fun j => .int (u j)
noncomputable abbrev nv (u : Nat → Nat) : Nat → Val := fun j => .int (u j)
noncomputable def ov (l : Nat → Option Int) : Nat → Val := fun j => match l j with | some x => .int x | none => .none
noncomputable abbrev bv (s : Nat → Bool) : Nat → Val := fun j => .bool (s j)
/-- cell a of the heap is an array of n -/
noncomputable def At (h : MH) (a n : Nat) (f : Nat → Val) : Prop := h[a]? = some (.list (arr n f))
/-- the cost at row i and column j, counted from one -/
noncomputable def cst (costs : List (List Int)) (i j : Nat) : Int := bA costs (i - 1) (j - 1)
structure Sq (costs : List (List Int)) (n : Nat) : Prop where
  np : costs.length = n
  row : ∀ r ∈ costs, r.length = n
section
variable {C : Cf} {W : Nat} {ρ : Rho} {h h' : MH} {r : MStmt}
theorem st_assign {i : Nat} {e : MExpr} {v : Val} (he : (sem C e).E ρ h = .ok v h') : exec C W (.cons (.assign i e) r) ρ h = exec C W r (ρ.set i (some v)) h' := by
  rw [X_cons', X_assign, he]; rfl
theorem st_fors {t it : MExpr} {b : MStmt} {s : Src} (hi : (sem C it).I ρ h = .ok s h') : exec C W (.cons (.fors t it b) r) ρ h = (forLoop (forStep t (exec C W b)) s.2 s.1 ρ h').bind (thenX C W r) := by
  rw [X_cons', X_fors, hi]; rfl
theorem st_if {c : MExpr} {t e : MStmt} {x : Bool} (hc : (sem C c).T ρ h = .ok x h') : exec C W (.cons (.ifs c t e) r) ρ h = (exec C W (if x then t else e) ρ h').bind (thenX C W r) := by
  rw [X_cons', X_ifs, hc]
  cases x <;> rfl
theorem st_expr {e : MExpr} {v : Val} (he : (sem C e).E ρ h = .ok v h') : exec C W (.cons (.expr e) r) ρ h = exec C W r ρ h' := by
  rw [X_cons', X_expr, he]; rfl
theorem I1_ok {a : MExpr} {v : Val} {s : Src} (ha : (sem C a).E ρ h = .ok v h) (hr : irangeV v h = .ok s h) : (sem C (.irange a)).I ρ h = .ok s h := by
  rw [I_irange, ha, Res.bind_ok, hr]
theorem st_ret {e : MExpr} {v : Val} (he : (sem C e).E ρ h = .ok v h') : exec C W (.cons (.ret e) r) ρ h = .ok (.ret v, ρ) h' := by
  rw [X_cons', X_ret, he]; rfl
end
end Mine


-- part LibWs
set_option maxRecDepth 4000
set_option linter.unusedVariables false
set_option linter.unusedSimpArgs false
namespace Mine
section
variable {C : Cf} {W : Nat} {ρ : Rho} {h h' : MH} {r : MStmt} {P : MFlow × Rho → MH → Prop}
theorem w_assign {i : Nat} {e : MExpr} (v : Val) (he : (sem C e).E ρ h = .ok v h') (k : Wp (exec C W r (ρ.set i (some v)) h') P) : Wp (exec C W (.cons (.assign i e) r) ρ h) P := by rw [st_assign he]; exact k
theorem w_skip {c : MExpr} {t : MStmt} (hc : (sem C c).T ρ h = .ok false h') (k : Wp (exec C W r ρ h') P) : Wp (exec C W (.cons (.ifs c t .nil) r) ρ h) P := by rw [st_if hc]; exact k
theorem w_then {c e : MExpr} {f : MStmt} (v : Val) {h'' : MH} (hc : (sem C c).T ρ h = .ok true h') (he : (sem C e).E ρ h' = .ok v h'') (k : P (.ret v, ρ) h'') : Wp (exec C W (.cons (.ifs c (.cons (.ret e) .nil) f) r) ρ h) P := by
  rw [st_if hc]; show Wp ((exec C W (.cons (.ret e) .nil) ρ h').bind _) P; rw [st_ret he]; exact k
theorem w_ret {e : MExpr} (v : Val) (he : (sem C e).E ρ h = .ok v h') (k : P (.ret v, ρ) h') : Wp (exec C W (.cons (.ret e) r) ρ h) P := by rw [st_ret he]; exact k
theorem w_for {t it : MExpr} {b : MStmt} {s : Src} (hi : (sem C it).I ρ h = .ok s h') (k : Wp (forLoop (forStep t (exec C W b)) s.2 s.1 ρ h') fun p h => Wp (thenX C W r p h) P) : Wp (exec C W (.cons (.fors t it b) r) ρ h) P := by
  rw [st_fors hi, Wp_bind]; exact k
end
end Mine


-- part LibXa
set_option maxRecDepth 4000
set_option linter.unusedVariables false
set_option linter.unusedSimpArgs false
namespace Mine

/-- what a call gives, with an exception told apart -/
noncomputable def Wx {α : Type} (r : Res α) (P : α → MH → Prop) (E : Nat → MH → Prop) : Prop :=
  match r with
  | .ok a h => P a h
  | .exc c h => E c h
  | .stuck => False
theorem Wx.bind {α β : Type} {r : Res α} {f : α → MH → Res β} {P : β → MH → Prop} {E : Nat → MH → Prop} (h : Wx r (fun a h => Wx (f a h) P E) E) : Wx (r.bind f) P E := by cases r <;> exact h
theorem Wx.mono {α : Type} {r : Res α} {P P' : α → MH → Prop} {E E' : Nat → MH → Prop} (h : Wx r P E) (p : ∀ a h, P a h → P' a h) (e : ∀ c h, E c h → E' c h) : Wx r P' E' := by
  cases r with
  | ok a h' => exact p _ _ h
  | exc c h' => exact e _ _ h
  | stuck => exact h

noncomputable def resOf (o : Option Nat) (h : MH) : Res Val := match o with | some c => .exc c h | none => .ok .none h

theorem forLoop_test {f : Val → Rho → MH → Res (MFlow × Rho)} {ck : MH → Bool} {h : MH} (P : Rho → Prop) (bad : Val → Option Nat) (hc : ck h = true) : ∀ (xs : List Val) (ρ : Rho),
    (∀ x ∈ xs, ∀ ρ, P ρ → match bad x with | some c => f x ρ h = .exc c h | none => ∃ ρ', f x ρ h = .ok (.next, ρ') h ∧ P ρ') → P ρ →
    match xs.findSome? bad with | some c => forLoop f ck xs ρ h = .exc c h | none => ∃ ρ', forLoop f ck xs ρ h = .ok (.next, ρ') h ∧ P ρ'
  | [], ρ, _, p => ⟨ρ, rfl, p⟩
  | x :: xs, ρ, hf, p => by
    have hx := hf x (.head _) ρ p
    rw [List.findSome?_cons]
    cases e : bad x with
    | some c => rw [e] at hx; simp only at hx ⊢; rw [forLoop, hx]; rfl
    | none =>
      rw [e] at hx
      obtain ⟨ρ1, e1, p1⟩ := hx
      have ih := forLoop_test P bad hc xs ρ1 (fun y hy => hf y (.tail _ hy)) p1
      simp only at ih ⊢
      rw [forLoop, e1]
      simp only [Res.bind_ok, hc, if_true]
      exact ih

section
variable {C : Cf} {W : Nat} {ρ : Rho} {h h' : MH} {c : MExpr} {t r : MStmt} {k : Nat}
theorem x_skip (hc : (sem C c).T ρ h = .ok false h') : exec C W (.cons (.ifs c t .nil) r) ρ h = exec C W r ρ h' := by rw [st_if hc]; rfl
theorem x_raise (hc : (sem C c).T ρ h = .ok true h') : exec C W (.cons (.ifs c (.cons (.raise k) .nil) .nil) r) ρ h = .exc k h' := by rw [st_if hc]; rfl
end

noncomputable def Vis (h : MH) (v : Val) : Prop := match v with | .ref i => ∃ p, seqOf h i = some p | _ => True
noncomputable def isI (v : Val) : Bool := match v with | .int _ => true | _ => false
noncomputable def okBid (v : Val) : Bool := match v with | .int i => decide (0 ≤ i ∧ i ≤ 1000000000000) | _ => false
noncomputable def bidBad (v : Val) : Option Nat := if okBid v then none else some 4

section
variable {F : Nat → Option MFun} {W n : Nat} {h : MH}

theorem isnum_x (hF : F 1 = some f_is_number) {v : Val} (hv : Vis h v) : callN F W (n + 1) 1 [v] h = .ok (.bool (isI v)) h := by
  rw [callN_def hF rfl]
  cases v with
  | ref i =>
    obtain ⟨p, hp⟩ := hv
    simp [f_is_number, isInstV, hp, isI]
  | _ => simp [f_is_number, isInstV, unV, isI]

theorem bid_test (hF : F 1 = some f_is_number) {v : Val} {o0 : Option Val} (hv : Vis h v) :
    (sem (callN F W (n + 1)) (.or (.un .Not (.call 1 (.cons (.loc 1) .nil))) (.un .Not (.cmp2 .LtE .LtE (.const (.int 0)) (.loc 1) (.gconst (.int 1000000000000)))))).T [o0, some v] h = .ok (!okBid v) h := by
  have e1 : locV 1 [o0, some v] h = .ok v h := rfl
  simp only [T_or, T_not, T_call, E_call, Es_cons, Es_nil, E_loc, e1, Res.bind_ok, isnum_x hF hv, truthy_bool, Res.opt_some]
  cases v with
  | int i =>
    show (if (!true) = true then _ else _) = _
    rw [if_neg (by decide)]
    simp only [T_cmp2, E_const, E_loc, e1, Res.bind_ok, cmp_le, Res.opt_some, E_gconst]
    by_cases h0 : 0 ≤ i
    · by_cases h1 : i ≤ 1000000000000 <;> simp [h0, h1, okBid]
    · simp [h0, okBid]
  | _ => rfl

theorem needbids_x (hF : F 1 = some f_is_number) (hG : F 3 = some f_need_bids) {a : Nat} {vs : List Val} (ha : h[a]? = some (.list vs)) (hv : ∀ v ∈ vs, Vis h v) : callN F W (n + 2) 3 [.ref a] h = resOf (vs.findSome? bidBad) h := by
  rw [callN_def hG rfl]
  show (exec (callN F W (n + 1)) W f_need_bids.body [some (.ref a), none] h).bind retOf = _
  unfold f_need_bids
  rw [st_fors (s := (vs, fun h' => decide (h'[a]? = some (.list vs)))) (h' := h) (by
    rw [I_iobj]
    show Res.opt (srcOf h (.ref a)) h = _
    rw [srcOf_list ha]; rfl)]
  have key := forLoop_test (f := forStep (.loc 1) (exec (callN F W (n + 1)) W (.cons (.ifs (.or (.un .Not (.call 1 (.cons (.loc 1) .nil))) (.un .Not (.cmp2 .LtE .LtE (.const (.int 0)) (.loc 1) (.gconst (.int 1000000000000))))) (.cons (.raise 4) .nil) .nil) .nil)))
    (ck := fun h' => decide (h'[a]? = some (.list vs))) (h := h) (fun ρ => ∃ o, ρ = [some (.ref a), o]) bidBad (by simp [ha]) vs [some (.ref a), none] (fun x hx ρ hρ => by
      obtain ⟨o, rfl⟩ := hρ
      have t := bid_test (F := F) (W := W) (n := n) hF (o0 := some (.ref a)) (hv x hx)
      unfold bidBad
      by_cases q : okBid x = true
      · rw [if_pos q]
        refine ⟨[some (.ref a), some x], ?_, _, rfl⟩
        show exec (callN F W (n + 1)) W (.cons _ .nil) [some (.ref a), some x] h = _
        rw [q] at t
        rw [x_skip t]; rfl
      · rw [if_neg q]
        show exec (callN F W (n + 1)) W (.cons _ .nil) [some (.ref a), some x] h = _
        have q' : okBid x = false := by simpa using q
        rw [q'] at t
        exact x_raise t) ⟨_, rfl⟩
  cases e : vs.findSome? bidBad with
  | some c => rw [e] at key; rw [key]; rfl
  | none => rw [e] at key; obtain ⟨ρ', e2, o, rfl⟩ := key; rw [e2]; rfl

noncomputable def rowBad (m : Nat) (r : List Val) : Option Nat := if r.length = m then r.findSome? bidBad else some 3
theorem needrow_x (hF : F 1 = some f_is_number) (hG : F 3 = some f_need_bids) (hH : F 4 = some f_need_row) {a m : Nat} {vs : List Val} (ha : h[a]? = some (.list vs)) (hv : ∀ v ∈ vs, Vis h v) : callN F W (n + 3) 4 [.ref a, .int m] h = resOf (rowBad m vs) h := by
  rw [callN_def hH rfl]
  show (exec (callN F W (n + 2)) W f_need_row.body [some (.ref a), some (.int m)] h).bind retOf = _
  unfold f_need_row
  have t : (sem (callN F W (n + 2)) (.cmp .NotEq (.bi .len (.cons (.loc 0) .nil)) (.loc 1))).T [some (.ref a), some (.int m)] h = .ok (decide (vs.length ≠ m)) h := by
    have l : biV h .len [.ref a] = .ok (.int vs.length) h := by simp [biV, bi1, biL, seqOf_list ha]
    rw [T_cmp, E_bi]
    show ((biV h .len [.ref a]).bind _) = _
    rw [l]
    show Res.opt (some (!((vs.length : Int) == (m : Int)))) h = _
    rw [Res.opt_some]; congr 1
    by_cases q : vs.length = m
    · simp [q]
    · have : ¬ (vs.length : Int) = m := by omega
      simp [q, this]
  unfold rowBad
  by_cases q : vs.length = m
  · rw [decide_eq_false (by simpa using q)] at t
    rw [if_pos q, x_skip t]
    have e : (sem (callN F W (n + 2)) (.call 3 (.cons (.loc 0) .nil))).E [some (.ref a), some (.int m)] h = resOf (vs.findSome? bidBad) h := by
      rw [E_call]
      show callN F W (n + 2) 3 [.ref a] h = _
      exact needbids_x hF hG ha hv
    rw [X_cons', X_expr, e]
    cases vs.findSome? bidBad <;> rfl
  · rw [decide_eq_true (by simpa using q)] at t
    rw [if_neg q, x_raise t]; rfl

/-- rows, list by list -/
noncomputable def RowsAt (h : MH) : List (List Val) → List Val → Prop
  | [], vs => vs = []
  | r :: rs, vs => ∃ i ws, vs = .ref i :: ws ∧ h[i]? = some (.list r) ∧ (∀ v ∈ r, Vis h v) ∧ RowsAt h rs ws
theorem RowsAt.length {h : MH} : ∀ {rs : List (List Val)} {vs : List Val}, RowsAt h rs vs → vs.length = rs.length
  | [], _, q => by rw [show _ = [] from q]; rfl
  | _ :: _, _, ⟨i, ws, e, _, _, q⟩ => by rw [e, List.length_cons, List.length_cons, q.length]
theorem RowsAt.find {h : MH} {f : List Val → Option Nat} {b : Val → Option Nat} (hb : ∀ i r, h[i]? = some (.list r) → b (.ref i) = f r) : ∀ {rs : List (List Val)} {vs : List Val}, RowsAt h rs vs → vs.findSome? b = rs.findSome? f
  | [], _, q => by rw [show _ = [] from q]; rfl
  | r :: rs, _, ⟨i, ws, e, hi, _, q⟩ => by rw [e, List.findSome?_cons, List.findSome?_cons, hb i r hi, q.find hb]
theorem RowsAt.mem {h : MH} : ∀ {rs : List (List Val)} {vs : List Val}, RowsAt h rs vs → ∀ v ∈ vs, ∃ i r, v = .ref i ∧ h[i]? = some (.list r) ∧ ∀ v ∈ r, Vis h v
  | [], _, q, v, hv => by rw [show _ = [] from q] at hv; cases hv
  | r :: rs, _, ⟨i, ws, e, hi, hv, q⟩, v, hm => by
    rw [e] at hm
    rcases List.mem_cons.mp hm with rfl | hm
    · exact ⟨i, r, rfl, hi, hv⟩
    · exact q.mem v hm
noncomputable def verdict (rs : List (List Val)) : Option Nat := match rs with
  | [] => some 1
  | r :: rs' => if 9 < (r :: rs').length ∨ 40 < r.length then some 2 else (r :: rs').findSome? (rowBad r.length)

theorem look_x (hF : F 1 = some f_is_number) (hG : F 3 = some f_need_bids) (hH : F 4 = some f_need_row) (hL : F 5 = some f_look) {a : Nat} {vs : List Val} {rs : List (List Val)} (ha : h[a]? = some (.list vs)) (R : RowsAt h rs vs) : callN F W (n + 4) 5 [.ref a] h = resOf (verdict rs) h := by
  rw [callN_def hL rfl]
  show (exec (callN F W (n + 3)) W f_look.body [some (.ref a), none] h).bind retOf = _
  unfold f_look
  have l : biV h .len [.ref a] = .ok (.int vs.length) h := by simp [biV, bi1, biL, seqOf_list ha]
  have len := R.length
  have t1 : (sem (callN F W (n + 3)) (.cmp .Eq (.bi .len (.cons (.loc 0) .nil)) (.const (.int 0)))).T [some (.ref a), none] h = .ok (decide (vs.length = 0)) h := by
    rw [T_cmp, E_bi]
    show ((biV h .len [.ref a]).bind _) = _
    rw [l]
    show Res.opt (some ((vs.length : Int) == 0)) h = _
    rw [Res.opt_some]; congr 1
    by_cases q : vs.length = 0
    · simp [q]
    · have : ¬ (vs.length : Int) = 0 := by omega
      rw [decide_eq_false q]; simpa using this
  cases rs with
  | nil =>
    rw [show vs = [] from R] at t1
    rw [x_raise t1]; rfl
  | cons r rs' =>
    obtain ⟨i, ws, rfl, hi, hvi, R'⟩ := R
    have R : RowsAt h (r :: rs') (.ref i :: ws) := ⟨i, ws, rfl, hi, hvi, R'⟩
    rw [decide_eq_false (by simp)] at t1
    rw [x_skip t1]
    have l0 : biV h .len [.ref i] = .ok (.int r.length) h := by simp [biV, bi1, biL, seqOf_list hi]
    have s0 : subV h (.ref a) (.int 0) = some (.ref i) := sub_ref (seqOf_list ha) (by omega) rfl
    have e0 : ∀ o, (sem (callN F W (n + 3)) (.bi .len (.cons (.sub (.loc 0) (.const (.int 0))) .nil))).E [some (.ref a), o] h = .ok (.int r.length) h := fun o => by
      rw [E_bi, Es_cons, E_sub]
      show ((((Res.opt (subV h (.ref a) (.int 0)) h)).bind _).bind _) = _
      rw [s0]
      show biV h .len [.ref i] = _
      exact l0
    have t2 : (sem (callN F W (n + 3)) (.or (.cmp .Gt (.bi .len (.cons (.loc 0) .nil)) (.gconst (.int 9))) (.cmp .Gt (.bi .len (.cons (.sub (.loc 0) (.const (.int 0))) .nil)) (.gconst (.int 40))))).T [some (.ref a), none] h = .ok (decide (9 < (r :: rs').length ∨ 40 < r.length)) h := by
      rw [T_or, T_cmp, E_bi]
      show (((biV h .len [.ref a]).bind _).bind _) = _
      rw [l]
      show ((Res.opt (some (decide (((Val.ref i :: ws).length : Int) > 9))) h).bind _) = _
      rw [len, Res.opt_some, Res.bind_ok]
      by_cases q : 9 < (r :: rs').length
      · rw [decide_eq_true (show ((r :: rs').length : Int) > 9 by omega), if_pos rfl, decide_eq_true (.inl q)]
      · rw [decide_eq_false (show ¬ ((r :: rs').length : Int) > 9 by omega), if_neg (by decide), T_cmp, e0]
        show Res.opt (some (decide ((r.length : Int) > 40))) h = _
        rw [Res.opt_some]; congr 1
        by_cases q2 : 40 < r.length
        · rw [decide_eq_true (show (r.length : Int) > 40 by omega), decide_eq_true (.inr q2)]
        · rw [decide_eq_false (show ¬ (r.length : Int) > 40 by omega), decide_eq_false (by omega)]
    have ve : verdict (r :: rs') = if 9 < (r :: rs').length ∨ 40 < r.length then some 2 else (r :: rs').findSome? (rowBad r.length) := rfl
    rw [ve]
    by_cases q : 9 < (r :: rs').length ∨ 40 < r.length
    · rw [decide_eq_true q] at t2
      rw [x_raise t2, if_pos q]; rfl
    · rw [decide_eq_false q] at t2
      rw [x_skip t2, if_neg q]
      rw [st_fors (s := (.ref i :: ws, fun h' => decide (h'[a]? = some (.list (.ref i :: ws))))) (h' := h) (by
        rw [I_iobj]
        show Res.opt (srcOf h (.ref a)) h = _
        rw [srcOf_list ha]; rfl)]
      have key := forLoop_test (f := forStep (.loc 1) (exec (callN F W (n + 3)) W (.cons (.expr (.call 4 (.cons (.loc 1) (.cons (.bi .len (.cons (.sub (.loc 0) (.const (.int 0))) .nil)) .nil)))) .nil)))
        (ck := fun h' => decide (h'[a]? = some (.list (.ref i :: ws)))) (h := h) (fun ρ => ∃ o, ρ = [some (.ref a), o]) (fun v => match v with | .ref j => (match h[j]? with | some (.list r') => rowBad r.length r' | _ => none) | _ => none) (by simp [ha]) (.ref i :: ws) [some (.ref a), none] (fun x hx ρ hρ => by
          obtain ⟨o, rfl⟩ := hρ
          obtain ⟨j, r', rfl, hj, hvj⟩ := R.mem x hx
          simp only [hj]
          have e : (sem (callN F W (n + 3)) (.call 4 (.cons (.loc 1) (.cons (.bi .len (.cons (.sub (.loc 0) (.const (.int 0))) .nil)) .nil)))).E [some (.ref a), some (.ref j)] h = resOf (rowBad r.length r') h := by
            rw [E_call, Es_cons, E_loc]
            show (((sem (callN F W (n + 3)) (.cons (.bi .len (.cons (.sub (.loc 0) (.const (.int 0))) .nil)) .nil)).Es [some (.ref a), some (.ref j)] h).bind fun vs h => .ok (Val.ref j :: vs) h).bind _ = _
            rw [Es_cons, e0]
            show callN F W (n + 3) 4 [.ref j, .int r.length] h = _
            exact needrow_x hF hG hH hj hvj
          have ex : forStep (.loc 1) (exec (callN F W (n + 3)) W (.cons (.expr (.call 4 (.cons (.loc 1) (.cons (.bi .len (.cons (.sub (.loc 0) (.const (.int 0))) .nil)) .nil)))) .nil)) (.ref j) [some (.ref a), o] h = (resOf (rowBad r.length r') h).bind fun _ h => .ok (.next, [some (.ref a), some (.ref j)]) h := by
            show exec (callN F W (n + 3)) W (.cons _ .nil) [some (.ref a), some (.ref j)] h = _
            rw [X_cons', X_expr, e]
            cases rowBad r.length r' <;> rfl
          rw [ex]
          cases rowBad r.length r' with
          | some c => rfl
          | none => exact ⟨_, rfl, _, rfl⟩) ⟨_, rfl⟩
      rw [R.find (f := rowBad r.length) (fun j r' hj => by simp only [hj])] at key
      cases e : (r :: rs').findSome? (rowBad r.length) with
      | some c => rw [e] at key; rw [key]; rfl
      | none => rw [e] at key; obtain ⟨ρ', e2, o, rfl⟩ := key; rw [e2]; rfl

end
end Mine


-- part L07a
set_option maxRecDepth 4000
set_option linter.unusedVariables false
set_option linter.unusedSimpArgs false
namespace Mine

noncomputable abbrev D10 : List Nat := [48, 49, 50, 51, 52, 53, 54, 55, 56, 57]
theorem mem_D10 {c : Nat} : c ∈ D10 ↔ 48 ≤ c ∧ c ≤ 57 := by
  simp only [D10, List.mem_cons, List.not_mem_nil, or_false]; omega
theorem idx_D10 {c : Nat} (h : c ∈ D10) : D10.idxOf c = c - 48 := by
  have := mem_D10.mp h
  have : c = 48 ∨ c = 49 ∨ c = 50 ∨ c = 51 ∨ c = 52 ∨ c = 53 ∨ c = 54 ∨ c = 55 ∨ c = 56 ∨ c = 57 := by omega
  rcases this with rfl | rfl | rfl | rfl | rfl | rfl | rfl | rfl | rfl | rfl <;> rfl
noncomputable def numP (w : List Nat) : Option Nat := if (1 ≤ w.length ∧ w.length ≤ 13) ∧ (∀ c ∈ w, c ∈ D10) ∧ ¬ (w[0]? = some 48 ∧ w ≠ [48]) then some (decVal w) else none
noncomputable def Asc (w : List Nat) : Prop := ∀ c ∈ w, c < 128
theorem asc_all {w : List Nat} (h : Asc w) : w.all (fun c => decide (c < 128)) = true := by
  rw [List.all_eq_true]; exact fun c hc => decide_eq_true (h c hc)

section
variable {F : Nat → Option MFun} {W n : Nat} {h : MH}

theorem comp_digs {C : Cf} {w : List Nat} {ρ : Rho} (hi : 1 < ρ.length) :
    compLoop (compStep (.loc 1) (sem C (.const (.bool true))).T (sem C (.cmp .In (.loc 1) (.gconst (.str D10)))).E ρ) (fun _ => true) (w.map fun c => .str [c]) h = .ok (w.map fun c => .bool (decide (c ∈ D10))) h := by
  rw [compLoop_pure (fun v => match v with | .str x => (match x with | c :: _ => some (.bool (decide (c ∈ D10))) | [] => none) | _ => none) _ (fun x hx => by
    obtain ⟨c, hc, rfl⟩ := List.mem_map.mp hx
    have e : locV 1 (ρ.set 1 (some (.str [c]))) h = .ok (.str [c]) h := by unfold locV; rw [List.getElem?_set_self hi]
    simp only [compStep, bindTgt, T_const, truthy_bool, Res.opt_some, Res.bind_ok, if_true, E_cmp, E_loc, E_gconst, e]
    rfl) rfl]
  congr 1
  induction w with
  | nil => rfl
  | cons a l ih => exact congrArg (Val.bool (decide (a ∈ D10)) :: ·) ih
theorem bools_digs (w : List Nat) : boolsOf (w.map fun c => Val.bool (decide (c ∈ D10))) = some (w.map fun c => decide (c ∈ D10)) := by
  induction w with
  | nil => rfl
  | cons a w ih => rw [List.map_cons, List.map_cons, boolsOf, ih]; rfl

theorem numof_x (h19 : F 19 = some f_number_of) {w : List Nat} (asc : Asc w) :
    Wx (callN F W (n + 1) 19 [.str w] h) (fun v h' => h <+: h' ∧ ∃ k, numP w = some k ∧ v = .int (k : Nat)) (fun c h' => h <+: h' ∧ c = 8 ∧ numP w = none) := by
  rw [callN_def h19 rfl]
  show Wx ((exec (callN F W n) W f_number_of.body [some (.str w), none] h).bind retOf) _ _
  unfold f_number_of
  have lw : biV h .len [.str w] = .ok (.int w.length) h := rfl
  have t2 : (sem (callN F W n) (.cmp2 .LtE .LtE (.const (.int 1)) (.bi .len (.cons (.loc 0) .nil)) (.gconst (.int 13)))).T [some (.str w), none] h = .ok (decide (1 ≤ w.length ∧ w.length ≤ 13)) h := by
    simp only [T_cmp2, E_const, Res.bind_ok, E_bi, Es_cons, Es_nil, E_loc, locV_zero, lw, cmp_le, E_gconst, Res.opt_some]
    by_cases q1 : 1 ≤ w.length
    · rw [decide_eq_true (show (1 : Int) ≤ w.length by omega), if_pos rfl]
      congr 1
      by_cases q2 : w.length ≤ 13
      · rw [decide_eq_true (show (w.length : Int) ≤ 13 by omega), decide_eq_true ⟨q1, q2⟩]
      · rw [decide_eq_false (show ¬ (w.length : Int) ≤ 13 by omega), decide_eq_false (fun z => q2 z.2)]
    · rw [decide_eq_false (show ¬ (1 : Int) ≤ w.length by omega), if_neg (by decide), decide_eq_false (fun z => q1 z.1)]
  by_cases q : 1 ≤ w.length ∧ w.length ≤ 13
  · have es : srcOf h (.str w) = some (w.map fun c => .str [c], fun _ => true) := if_pos (asc_all asc)
    have key := comp_digs (C := callN F W n) (h := h) (w := w) (ρ := [some (.str w), none]) (by simp)
    have t1 : (sem (callN F W n) (.bi .all (.cons (.comp (.cmp .In (.loc 1) (.gconst (.str D10))) (.loc 1) (.iobj (.loc 0)) (.const (.bool true))) .nil))).T [some (.str w), none] h = .ok (decide (∀ c ∈ w, c ∈ D10)) (h ++ [.list (w.map fun c => .bool (decide (c ∈ D10)))]) := by
      rw [T_bi, E_bi, Es_cons, E_comp, I_iobj, E_loc, locV_zero, Res.bind_ok]
      simp only [es, Res.opt_some, Res.bind_ok, key]
      rw [newList_ok (by rw [List.length_map]; omega)]
      simp only [Res.bind_ok, Es_nil]
      have al : biV (h ++ [MObj.list (w.map fun c => .bool (decide (c ∈ D10)))]) .all [.ref h.length] = .ok (.bool ((w.map fun c => decide (c ∈ D10)).all id)) (h ++ [.list (w.map fun c => .bool (decide (c ∈ D10)))]) := by
        show biAll _ _ = _
        unfold biAll
        have : (h ++ [MObj.list (w.map fun c => .bool (decide (c ∈ D10)))])[h.length]? = some (.list (w.map fun c => .bool (decide (c ∈ D10)))) := by simp
        rw [this]
        show (match boolsOf (w.map fun c => Val.bool (decide (c ∈ D10))) with | some bs => Res.ok (Val.bool (bs.all id)) _ | none => .stuck) = _
        rw [bools_digs]
      rw [al, Res.bind_ok, truthy_bool, Res.opt_some]
      congr 1
      rw [Bool.eq_iff_iff, List.all_eq_true, decide_eq_true_eq]
      simp
    generalize hh : h ++ [MObj.list (w.map fun c => .bool (decide (c ∈ D10)))] = h1 at t1
    have p1 : h <+: h1 := hh ▸ pre_app _ _
    have t5 : (sem (callN F W n) (.or (.un .Not (.cmp2 .LtE .LtE (.const (.int 1)) (.bi .len (.cons (.loc 0) .nil)) (.gconst (.int 13)))) (.un .Not (.bi .all (.cons (.comp (.cmp .In (.loc 1) (.gconst (.str D10))) (.loc 1) (.iobj (.loc 0)) (.const (.bool true))) .nil))))).T [some (.str w), none] h = .ok (!decide (∀ c ∈ w, c ∈ D10)) h1 := by
      rw [T_or, T_not, t2, decide_eq_true q, Res.bind_ok, Res.bind_ok]
      show (if (!true) = true then _ else _) = _
      rw [if_neg (by decide), T_not, t1]; rfl
    by_cases qd : ∀ c ∈ w, c ∈ D10
    · rw [decide_eq_true qd] at t5
      rw [x_skip t5]
      obtain ⟨c, r, e⟩ : ∃ c r, w = c :: r := by
        cases w with
        | nil => simp at q
        | cons c r => exact ⟨c, r, rfl⟩
      have s0 : subV h1 (.str w) (.int 0) = some (.str [c]) := by rw [e]; simp [subV, idxOf]
      have t3 : (sem (callN F W n) (.and (.cmp .Eq (.sub (.loc 0) (.const (.int 0))) (.const (.str [48]))) (.cmp .NotEq (.loc 0) (.const (.str [48]))))).T [some (.str w), none] h1 = .ok (decide (w[0]? = some 48 ∧ w ≠ [48])) h1 := by
        simp only [T_and, T_cmp, E_sub, E_loc, locV_zero, Res.bind_ok, E_const, s0, Res.opt_some]
        show ((Res.opt (some ([c] == [48])) _).bind _) = _
        rw [Res.opt_some, Res.bind_ok]
        have w0 : w[0]? = some c := by rw [e]; rfl
        by_cases z : c = 48
        · subst z
          rw [if_pos (by decide)]
          show Res.opt (some (!(w == [48]))) _ = _
          rw [Res.opt_some, w0]; congr 1
          by_cases y : w = [48]
          · rw [y]; rfl
          · rw [decide_eq_true ⟨rfl, y⟩]; simpa using y
        · have : ([c] == [48]) = false := by simp [z]
          rw [this, if_neg (by decide), decide_eq_false (fun y => z (by rw [w0] at y; exact Option.some.inj y.1))]
      by_cases qz : w[0]? = some 48 ∧ w ≠ [48]
      · rw [decide_eq_true qz] at t3
        rw [x_raise t3]
        exact ⟨p1, rfl, if_neg fun z => z.2.2 qz⟩
      · rw [decide_eq_false qz] at t3
        rw [x_skip t3]
        have nu : isNum w = true := by
          unfold isNum
          simp only [Bool.and_eq_true, decide_eq_true_eq, List.all_eq_true, Bool.not_eq_true']
          exact ⟨⟨by rw [e]; rfl, fun c hc => mem_D10.mp (qd c hc)⟩, by omega⟩
        have t4 : (sem (callN F W n) (.bi .int (.cons (.loc 0) .nil))).E [some (.str w), none] h1 = .ok (.int (decVal w)) h1 := by
          simp only [E_bi, Es_cons, Es_nil, E_loc, locV_zero, Res.bind_ok]
          show ofS _ w = _
          unfold ofS
          rw [if_pos nu]
        rw [st_ret t4]
        exact ⟨p1, _, if_pos ⟨q, qd, qz⟩, rfl⟩
    · rw [decide_eq_false qd] at t5
      rw [x_raise t5]
      exact ⟨p1, rfl, if_neg fun z => qd z.2.1⟩
  · have t5 : (sem (callN F W n) (.or (.un .Not (.cmp2 .LtE .LtE (.const (.int 1)) (.bi .len (.cons (.loc 0) .nil)) (.gconst (.int 13)))) (.un .Not (.bi .all (.cons (.comp (.cmp .In (.loc 1) (.gconst (.str D10))) (.loc 1) (.iobj (.loc 0)) (.const (.bool true))) .nil))))).T [some (.str w), none] h = .ok true h := by
      rw [T_or, T_not, t2, decide_eq_false q, Res.bind_ok, Res.bind_ok]
      rfl
    rw [x_raise t5]
    exact ⟨List.prefix_refl _, rfl, if_neg fun z => q z.1⟩

/-- the law's own reading of a word -/
noncomputable def numV (w : List Nat) : Val := match numP w with | some k => .int k | none => .none
noncomputable def lnumB : MStmt := .cons (.ifs (.cmp .NotIn (.loc 2) (.const (.str D10))) (.cons (.ret (.const .none)) .nil) .nil) (.cons (.assign 1 (.bin .Add (.bin .Mult (.loc 1) (.const (.int 10))) (.meth .sidx (.const (.str D10)) (.cons (.loc 2) .nil)))) .nil)
theorem lnum_loop {C : Cf} {w0 : List Nat} : ∀ (w : List Nat) (t : Nat) (o : Option Val),
    Wp (forLoop (forStep (.loc 2) (exec C W lnumB)) (fun _ => true) (w.map fun c => .str [c]) [some (.str w0), some (.int (t : Nat)), o] h) fun p h' => h' = h ∧
      (((∀ c ∈ w, c ∈ D10) ∧ ∃ o', p = (.next, [some (.str w0), some (.int ((w.foldl (fun a c => a * 10 + (c - 48)) t : Nat) : Int)), o'])) ∨ ((¬ ∀ c ∈ w, c ∈ D10) ∧ p.1 = .ret .none))
  | [], t, o => ⟨rfl, .inl ⟨fun c hc => (nomatch hc), o, rfl⟩⟩
  | c :: w, t, o => by
    have t1 : (sem C (.cmp .NotIn (.loc 2) (.const (.str D10)))).T [some (.str w0), some (.int (t : Nat)), some (.str [c])] h = .ok (!decide (c ∈ D10)) h := rfl
    rw [List.map_cons, forLoop]
    by_cases hc : c ∈ D10
    · have e : (sem C (.bin .Add (.bin .Mult (.loc 1) (.const (.int 10))) (.meth .sidx (.const (.str D10)) (.cons (.loc 2) .nil)))).E [some (.str w0), some (.int (t : Nat)), some (.str [c])] h = .ok (.int ((t * 10 + (c - 48) : Nat) : Int)) h := by
        have e1 : (sem C (.bin .Mult (.loc 1) (.const (.int 10)))).E [some (.str w0), some (.int (t : Nat)), some (.str [c])] h = .ok (.int ((t : Int) * 10)) h := by
          show binV h .Mult (.int t) (.int 10) = _
          rw [bin_mul, if_pos (by simp [mulOk])]
        have e2 : (sem C (.meth .sidx (.const (.str D10)) (.cons (.loc 2) .nil))).E [some (.str w0), some (.int (t : Nat)), some (.str [c])] h = .ok (.int ((c - 48 : Nat) : Int)) h := by
          show (if c ∈ D10 then Res.ok (Val.int (D10.idxOf c : Nat)) h else .stuck) = _
          rw [if_pos hc, idx_D10 hc]
        rw [E_bin, e1, Res.bind_ok, e2, Res.bind_ok, bin_add]
        congr 2
      have st : forStep (.loc 2) (exec C W lnumB) (.str [c]) [some (.str w0), some (.int (t : Nat)), o] h = .ok (.next, [some (.str w0), some (.int ((t * 10 + (c - 48) : Nat) : Int)), some (.str [c])]) h := by
        show exec C W lnumB [some (.str w0), some (.int (t : Nat)), some (.str [c])] h = _
        rw [decide_eq_true hc] at t1
        unfold lnumB
        rw [x_skip t1, st_assign e]; rfl
      have iff : (∀ x ∈ c :: w, x ∈ D10) ↔ ∀ x ∈ w, x ∈ D10 := ⟨fun q x hx => q x (.tail _ hx), fun q x hx => by
        rcases List.mem_cons.mp hx with rfl | hx
        · exact hc
        · exact q x hx⟩
      rw [st]
      simp only [Res.bind_ok, if_true, iff, List.foldl_cons]
      exact lnum_loop w (t * 10 + (c - 48)) (some (.str [c]))
    · have st : forStep (.loc 2) (exec C W lnumB) (.str [c]) [some (.str w0), some (.int (t : Nat)), o] h = .ok (.ret .none, [some (.str w0), some (.int (t : Nat)), some (.str [c])]) h := by
        show exec C W lnumB [some (.str w0), some (.int (t : Nat)), some (.str [c])] h = _
        rw [decide_eq_false hc] at t1
        unfold lnumB
        rw [st_if t1]; rfl
      rw [st]
      exact ⟨rfl, .inr ⟨fun q => hc (q c (.head _)), rfl⟩⟩

theorem lnumber_ok (h47 : F 47 = some f_law_number) {w : List Nat} (asc : Asc w) : callN F W (n + 1) 47 [.str w] h = .ok (numV w) h := by
  rw [callN_def h47 rfl]
  show (exec (callN F W n) W f_law_number.body [some (.str w), none, none] h).bind retOf = _
  unfold f_law_number
  have lw : biV h .len [.str w] = .ok (.int w.length) h := rfl
  have t : (sem (callN F W n) (.or (.cmp .Eq (.loc 0) (.const (.str []))) (.or (.cmp .Gt (.bi .len (.cons (.loc 0) .nil)) (.const (.int 13))) (.and (.cmp .Eq (.sub (.loc 0) (.const (.int 0))) (.const (.str [48]))) (.cmp .Gt (.bi .len (.cons (.loc 0) .nil)) (.const (.int 1))))))).T [some (.str w), none, none] h
      = .ok (decide (¬ (1 ≤ w.length ∧ w.length ≤ 13) ∨ (w[0]? = some 48 ∧ w ≠ [48]))) h := by
    rw [T_or, T_cmp]
    show ((Res.opt (some (w == [])) h).bind _) = _
    rw [Res.opt_some, Res.bind_ok]
    cases w with
    | nil => rfl
    | cons c r =>
      have : ((c :: r) == []) = false := rfl
      rw [this, if_neg (by decide), T_or, T_cmp, E_bi]
      show ((Res.opt (some (decide (((c :: r).length : Int) > 13))) h).bind _) = _
      rw [Res.opt_some, Res.bind_ok]
      by_cases q : (c :: r).length ≤ 13
      · have s0 : subV h (.str (c :: r)) (.int 0) = some (.str [c]) := by simp [subV, idxOf]
        rw [decide_eq_false (by omega), if_neg (by decide), T_and, T_cmp, E_sub]
        show (((Res.opt (subV h (.str (c :: r)) (.int 0)) h).bind _).bind _) = _
        rw [s0]
        show ((Res.opt (some ([c] == [48])) h).bind _) = _
        rw [Res.opt_some, Res.bind_ok]
        have w0 : (c :: r)[0]? = some c := rfl
        have q1 : 1 ≤ (c :: r).length := by simp
        by_cases z : c = 48
        · subst z
          rw [if_pos (by decide), T_cmp, E_bi]
          show Res.opt (some (decide ((((48 : Nat) :: r).length : Int) > 1))) h = _
          rw [Res.opt_some]; congr 1
          cases r with
          | nil => rfl
          | cons d r => rw [decide_eq_true (by simp; omega), decide_eq_true (.inr ⟨rfl, by simp⟩)]
        · have : ([c] == [48]) = false := by simp [z]
          rw [this, if_neg (by decide), decide_eq_false (fun y => by
            rcases y with y | y
            · exact y ⟨q1, q⟩
            · rw [w0] at y; exact z (Option.some.inj y.1))]
      · rw [decide_eq_true (by omega), if_pos rfl, decide_eq_true (.inl fun z => q z.2)]
  by_cases q : ¬ (1 ≤ w.length ∧ w.length ≤ 13) ∨ (w[0]? = some 48 ∧ w ≠ [48])
  · rw [decide_eq_true q] at t
    have : numP w = none := if_neg fun z => by
      rcases q with q | q
      · exact q z.1
      · exact z.2.2 q
    unfold numV
    rw [st_if t, this]; rfl
  · rw [decide_eq_false q] at t
    rw [x_skip t, st_assign (v := .int 0) (h' := h) rfl]
    show (exec (callN F W n) W _ [some (.str w), some (.int (0 : Nat)), none] h).bind retOf = _
    rw [st_fors (s := (w.map fun c => .str [c], fun _ => true)) (h' := h) (by
      rw [I_iobj]
      show Res.opt (srcOf h (.str w)) h = _
      rw [show srcOf h (.str w) = some (w.map fun c => .str [c], fun _ => true) from if_pos (asc_all asc)]; rfl)]
    obtain ⟨p, h', e, rfl, key⟩ := (lnum_loop (W := W) (h := h) (C := callN F W n) (w0 := w) w 0 none).get
    have e : forLoop (forStep (.loc 2) (exec (callN F W n) W (.cons (.ifs (.cmp .NotIn (.loc 2) (.const (.str D10))) (.cons (.ret (.const .none)) .nil) .nil) (.cons (.assign 1 (.bin .Add (.bin .Mult (.loc 1) (.const (.int 10))) (.meth .sidx (.const (.str D10)) (.cons (.loc 2) .nil)))) .nil)))) (fun _ => true) (w.map fun c => .str [c]) [some (.str w), some (.int (0 : Nat)), none] h' = .ok p h' := e
    rw [e]
    rcases key with ⟨k1, o', rfl⟩ | ⟨k1, k2⟩
    · have : numP w = some (decVal w) := if_pos ⟨Classical.byContradiction fun z => q (.inl z), k1, fun z => q (.inr z)⟩
      unfold numV
      rw [this, Res.bind_ok, thenX_next, st_ret (v := .int (decVal w)) (h' := h') rfl]; rfl
    · obtain ⟨fl, ρ⟩ := p
      have k2 : fl = .ret .none := k2
      subst k2
      have : numP w = none := if_neg fun z => k1 z.2.1
      unfold numV
      rw [this]; rfl
end
end Mine


-- part L07b
set_option maxRecDepth 4000
set_option linter.unusedVariables false
set_option linter.unusedSimpArgs false
namespace Mine

noncomputable def optAll {α β : Type} (f : α → Option β) : List α → Option (List β)
  | [] => some []
  | x :: xs => match f x with | some a => (match optAll f xs with | some r => some (a :: r) | none => none) | none => none
theorem sp_mem {c : Nat} : ∀ {l w : List Nat}, w ∈ splitBy c l → ∀ x ∈ w, x ∈ l
  | [], w, h, x, hx => by rw [List.mem_singleton.mp h] at hx; exact hx
  | a :: l, w, h, x, hx => by
    by_cases e : a = c
    · rw [show splitBy c (a :: l) = [] :: splitBy c l from if_pos e] at h
      rcases List.mem_cons.mp h with rfl | h
      · cases hx
      · exact .tail _ (sp_mem h x hx)
    · rw [show splitBy c (a :: l) = headAdd a (splitBy c l) from if_neg e] at h
      cases q : splitBy c l with
      | nil => rw [q] at h; rw [List.mem_singleton.mp (show w ∈ [[a]] from h)] at hx; rw [List.mem_singleton.mp hx]; exact .head _
      | cons v r =>
        rw [q] at h
        rcases List.mem_cons.mp (show w ∈ (a :: v) :: r from h) with rfl | h
        · rcases List.mem_cons.mp hx with rfl | hx
          · exact .head _
          · exact .tail _ (sp_mem (c := c) (by rw [q]; exact .head _) x hx)
        · exact .tail _ (sp_mem (c := c) (by rw [q]; exact .tail _ h) x hx)
theorem sp_head (a : Nat) (l : List (List Nat)) : (headAdd a l).length ≤ max 1 l.length := by cases l <;> simp [headAdd]
theorem sp_some {c : Nat} : ∀ l : List Nat, 1 ≤ (splitBy c l).length
  | [] => Nat.le_refl _
  | a :: l => by
    by_cases e : a = c
    · rw [show splitBy c (a :: l) = [] :: splitBy c l from if_pos e]; simp
    · rw [show splitBy c (a :: l) = headAdd a (splitBy c l) from if_neg e]; cases splitBy c l <;> simp [headAdd]
theorem sp_count {c : Nat} : ∀ l : List Nat, (splitBy c l).length ≤ l.length + 1
  | [] => Nat.le_refl _
  | a :: l => by
    have ih := sp_count (c := c) l
    have := sp_some (c := c) l
    by_cases e : a = c
    · rw [show splitBy c (a :: l) = [] :: splitBy c l from if_pos e]; simp only [List.length_cons]; omega
    · rw [show splitBy c (a :: l) = headAdd a (splitBy c l) from if_neg e]
      have := sp_head a (splitBy c l)
      simp only [List.length_cons]; omega

noncomputable def rowP (l : List Nat) : Option (List Nat) := if l = [] then some [] else optAll numP (splitBy 32 l)
noncomputable abbrev iN (k : Nat) : Val := .int (k : Nat)

/-- values one by one -/
noncomputable def RL {β : Type} (R : β → Val → MH → Prop) : List β → List Val → MH → Prop
  | [], vs, _ => vs = []
  | b :: bs, vs, h => ∃ v ws, vs = v :: ws ∧ R b v h ∧ RL R bs ws h
theorem RL.mono {β : Type} {R : β → Val → MH → Prop} {h h' : MH} (m : ∀ b v, R b v h → R b v h') : ∀ {bs : List β} {vs : List Val}, RL R bs vs h → RL R bs vs h'
  | [], _, q => q
  | _ :: _, _, ⟨v, ws, e, r, q⟩ => ⟨v, ws, e, m _ _ r, q.mono m⟩
theorem RL.snoc {β : Type} {R : β → Val → MH → Prop} {h : MH} {b : β} {v : Val} (r : R b v h) : ∀ {bs : List β} {vs : List Val}, RL R bs vs h → RL R (bs ++ [b]) (vs ++ [v]) h
  | [], _, q => by rw [show _ = [] from q]; exact ⟨v, [], rfl, r, rfl⟩
  | _ :: _, _, ⟨u, ws, e, r', q⟩ => by rw [e]; exact ⟨u, ws ++ [v], rfl, r', q.snoc r⟩
theorem RL.length {β : Type} {R : β → Val → MH → Prop} {h : MH} : ∀ {bs : List β} {vs : List Val}, RL R bs vs h → vs.length = bs.length
  | [], _, q => by rw [show _ = [] from q]; rfl
  | _ :: _, _, ⟨v, ws, e, _, q⟩ => by rw [e, List.length_cons, List.length_cons, q.length]
theorem comp_x {f : Val → MH → Res (Option Val)} {ck : MH → Bool} {h0 : MH} (hck : ∀ h, h0 <+: h → ck h = true) {α β : Type} (src : α → Val) (p : α → Option β) (R : β → Val → MH → Prop) (mono : ∀ h h' b v, h <+: h' → R b v h → R b v h') : ∀ (xs : List α) (h : MH), h0 <+: h →
    (∀ x ∈ xs, ∀ h, h0 <+: h → Wx (f (src x) h) (fun o h' => h <+: h' ∧ ∃ b v, p x = some b ∧ o = some v ∧ R b v h') (fun c h' => h <+: h' ∧ c = 8 ∧ p x = none)) →
    Wx (compLoop f ck (xs.map src) h) (fun vs h' => h <+: h' ∧ ∃ bs, optAll p xs = some bs ∧ RL R bs vs h') (fun c h' => h <+: h' ∧ c = 8 ∧ optAll p xs = none)
  | [], h, _, _ => ⟨List.prefix_refl _, [], rfl, rfl⟩
  | x :: xs, h, ph, hf => by
    rw [List.map_cons, compLoop]
    refine Wx.bind ((hf x (.head _) h ph).mono (fun o h1 q => ?_) fun c h1 q => ⟨q.1, q.2.1, by rw [optAll, q.2.2]⟩)
    obtain ⟨q1, b, v, q2, rfl, q3⟩ := q
    rw [if_pos (hck _ (ph.trans q1))]
    refine Wx.bind ((comp_x hck src p R mono xs h1 (ph.trans q1) fun y hy => hf y (.tail _ hy)).mono (fun vs h2 z => ?_) fun c h2 z => ⟨q1.trans z.1, z.2.1, by rw [optAll, q2, z.2.2]⟩)
    obtain ⟨z1, bs, z2, z3⟩ := z
    exact ⟨q1.trans z1, b :: bs, by rw [optAll, q2, z2], v, vs, rfl, mono _ _ _ _ z1 q3, z3⟩
theorem RL_ints {h : MH} : ∀ {ks : List Nat} {vs : List Val}, RL (fun (k : Nat) v _ => v = iN k) ks vs h → vs = ks.map iN
  | [], _, q => q
  | _ :: _, _, ⟨v, ws, e, r, q⟩ => by rw [e, r, RL_ints q]; rfl

section
variable {F : Nat → Option MFun} {W n : Nat} {h : MH}

theorem rowof_x (h19 : F 19 = some f_number_of) (h20 : F 20 = some f_row_of) {l : List Nat} (asc : Asc l) (hl : l.length ≤ 1000000) :
    Wx (callN F W (n + 2) 20 [.str l] h) (fun v h' => h <+: h' ∧ ∃ r a, rowP l = some r ∧ v = .ref a ∧ h'[a]? = some (.list (r.map iN))) (fun c h' => h <+: h' ∧ c = 8 ∧ rowP l = none) := by
  rw [callN_def h20 rfl]
  show Wx ((exec (callN F W (n + 1)) W f_row_of.body [some (.str l), none] h).bind retOf) _ _
  unfold f_row_of
  have t : (sem (callN F W (n + 1)) (.cmp .Eq (.loc 0) (.const (.str [])))).T [some (.str l), none] h = .ok (decide (l = [])) h := by
    show Res.opt (some (l == [])) h = _
    rw [Res.opt_some]; congr 1
    cases l <;> rfl
  by_cases q : l = []
  · rw [decide_eq_true q] at t
    rw [st_if t, if_pos rfl, st_ret (v := .ref h.length) (h' := h ++ [.list []]) (by show newList [] h = _; exact newList_ok (by simp))]
    exact ⟨pre_app _ _, [], h.length, if_pos q, rfl, by simp⟩
  · rw [decide_eq_false q] at t
    rw [x_skip t]
    have es : (sem (callN F W (n + 1)) (.meth .split (.loc 0) (.cons (.const (.str [32])) .nil))).E [some (.str l), none] h = .ok (.ref h.length) (h ++ [.list ((splitBy 32 l).map .str)]) := by
      show newList ((splitBy 32 l).map .str) h = _
      exact newList_ok (by rw [List.length_map]; have := sp_count (c := 32) l; omega)
    have g : (h ++ [MObj.list ((splitBy 32 l).map .str)])[h.length]? = some (.list ((splitBy 32 l).map .str)) := by simp
    have key := comp_x (f := compStep (.loc 1) (sem (callN F W (n + 1)) (.const (.bool true))).T (sem (callN F W (n + 1)) (.call 19 (.cons (.loc 1) .nil))).E [some (.str l), none]) (ck_list g) Val.str numP (fun k v _ => v = iN k) (fun _ _ _ _ _ r => r) (splitBy 32 l) _ (List.prefix_refl _) (fun w hw h' ph => by
      show Wx ((callN F W (n + 1) 19 [.str w] h').bind fun v h => .ok (some v) h) _ _
      refine Wx.bind ((numof_x h19 (fun x hx => asc x (sp_mem hw x hx))).mono (fun v h2 z => ?_) fun c h2 z => z)
      obtain ⟨z1, k, z2, rfl⟩ := z
      exact ⟨z1, k, _, z2, rfl, rfl⟩)
    rw [X_cons', X_ret, E_comp, I_iobj, es, Res.bind_ok, srcOf_list g, Res.opt_some, Res.bind_ok]
    refine Wx.bind (Wx.bind (Wx.bind (Wx.bind (key.mono (fun vs h2 z => ?_) fun c h2 z => ⟨(pre_app _ _).trans z.1, z.2.1, by unfold rowP; rw [if_neg q]; exact z.2.2⟩))))
    obtain ⟨z1, ks, z2, z3⟩ := z
    have lk := z3.length
    have : ∀ (ws : List (List Nat)) (ks : List Nat), optAll numP ws = some ks → ks.length = ws.length := fun ws => by
      induction ws with
      | nil => intro ks e; cases e; rfl
      | cons w ws ih =>
        intro ks e
        rw [optAll] at e
        split at e
        · split at e
          · rename_i r hr; cases e; rw [List.length_cons, List.length_cons, ih _ hr]
          · cases e
        · cases e
    have lk2 := this _ _ z2
    have ls := sp_count (c := 32) l
    rw [newList_ok (by omega)]
    exact ⟨((pre_app _ _).trans z1).trans (pre_app _ _), ks, h2.length, by unfold rowP; rw [if_neg q]; exact z2, rfl, by rw [RL_ints z3]; simp⟩

noncomputable def lrowB : MStmt := .cons (.ifs (.cmp .Eq (.loc 3) (.const (.str [32])))
  (.cons (.assign 4 (.call 47 (.cons (.loc 2) .nil))) (.cons (.ifs (.cmp .Is (.loc 4) (.const .none)) (.cons (.ret (.const .none)) .nil) .nil) (.cons (.expr (.meth .append (.loc 1) (.cons (.loc 4) .nil))) (.cons (.assign 2 (.const (.str []))) .nil))))
  (.cons (.assign 2 (.bin .Add (.loc 2) (.loc 3))) .nil)) .nil
noncomputable abbrev s1 (c : Nat) : Val := .str [c]

theorem app_end {xs : List Val} {x : Val} (hl : xs.length < 1000000) : meV (h ++ [.list xs]) .append (.ref h.length) [x] = .ok .none (h ++ [.list (xs ++ [x])]) := by
  show meApp (h ++ [.list xs]) (.ref h.length) [x] = _
  unfold meApp onL
  have g : (h ++ [MObj.list xs])[h.length]? = some (.list xs) := by simp
  simp only [g]
  show (if xs.length < lim then Res.ok Val.none ((h ++ [MObj.list xs]).set h.length (.list (xs ++ [x]))) else .stuck) = _
  rw [if_pos (by show _ < 1048576; omega)]
  simp

theorem src_txt {w : List Nat} (asc : Asc w) : srcOf h (.str w) = some (w.map s1, fun _ => true) := if_pos (asc_all asc)
theorem lrow_word {C : Cf} (hC : ∀ w h, Asc w → C 47 [.str w] h = .ok (numV w) h) {l0 cur : List Nat} {acc : List Nat} {o4 : Option Val} (ac : Asc cur) (la : acc.length < 1000000) :
    exec C W lrowB [some (.str l0), some (.ref h.length), some (.str cur), some (s1 32), o4] (h ++ [.list (acc.map iN)]) =
      match numP cur with | some k => .ok (.next, [some (.str l0), some (.ref h.length), some (.str []), some (s1 32), some (iN k)]) (h ++ [.list ((acc ++ [k]).map iN)]) | none => .ok (.ret .none, [some (.str l0), some (.ref h.length), some (.str cur), some (s1 32), some .none]) (h ++ [.list (acc.map iN)]) := by
  unfold lrowB
  rw [st_if (x := true) (h' := h ++ [.list (acc.map iN)]) rfl]
  show (exec C W (.cons _ _) _ _).bind _ = _
  rw [st_assign (v := numV cur) (h' := h ++ [.list (acc.map iN)]) (by rw [E_call]; show C 47 [.str cur] _ = _; exact hC _ _ ac)]
  show (exec C W (.cons _ _) [some (.str l0), some (.ref h.length), some (.str cur), some (s1 32), some (numV cur)] _).bind _ = _
  unfold numV
  cases numP cur with
  | none => rfl
  | some k =>
    show (exec C W (.cons _ _) [some (.str l0), some (.ref h.length), some (.str cur), some (s1 32), some (iN k)] _).bind _ = _
    rw [x_skip (h' := h ++ [.list (acc.map iN)]) rfl]
    rw [st_expr (v := .none) (h' := h ++ [.list ((acc ++ [k]).map iN)]) (by
      rw [E_meth]
      show (if meOk (h ++ [.list (acc.map iN)]) .append (.ref h.length) = true then meV (h ++ [.list (acc.map iN)]) .append (.ref h.length) [iN k] else .stuck) = _
      rw [if_pos (by show isListAt _ _ = true; unfold isListAt; simp), app_end (by rw [List.length_map]; exact la)]
      simp)]
    rfl
theorem lrow_loop {C : Cf} (hC : ∀ w h, Asc w → C 47 [.str w] h = .ok (numV w) h) {l0 : List Nat} : ∀ (rest cur acc : List Nat) (o3 o4 : Option Val), 32 ∉ cur → Asc cur → Asc rest → cur.length + rest.length ≤ 1000000 → acc.length + rest.length < 1000000 →
    Wp (forLoop (forStep (.loc 3) (exec C W lrowB)) (fun _ => true) ((rest ++ [32]).map s1) [some (.str l0), some (.ref h.length), some (.str cur), o3, o4] (h ++ [.list (acc.map iN)])) fun p h' =>
      match optAll numP (splitBy 32 (cur ++ rest)) with
      | some ks => h' = h ++ [.list ((acc ++ ks).map iN)] ∧ ∃ o3 o4, p = (.next, [some (.str l0), some (.ref h.length), some (.str []), o3, o4])
      | none => h <+: h' ∧ p.1 = .ret .none
  | [], cur, acc, o3, o4, n32, ac, ar, hl, hla => by
    have e := lrow_word (W := W) (h := h) (o4 := o4) hC (l0 := l0) ac (acc := acc) (by simpa using hla)
    have st : forStep (.loc 3) (exec C W lrowB) (s1 32) [some (.str l0), some (.ref h.length), some (.str cur), o3, o4] (h ++ [.list (acc.map iN)]) = _ := e
    rw [List.append_nil, split_one n32]
    show Wp (forLoop _ _ [s1 32] _ _) _
    rw [forLoop, st]
    simp only [optAll]
    cases numP cur with
    | none => exact ⟨pre_app _ _, rfl⟩
    | some k => exact ⟨rfl, _, _, rfl⟩
  | c :: rest, cur, acc, o3, o4, n32, ac, ar, hl, hla => by
    have ar' : Asc rest := fun x hx => ar x (.tail _ hx)
    simp only [List.length_cons] at hl hla
    show Wp (forLoop _ _ (s1 c :: (rest ++ [32]).map s1) _ _) _
    rw [forLoop]
    by_cases hc : c = 32
    · subst hc
      have e := lrow_word (W := W) (h := h) (o4 := o4) hC (l0 := l0) ac (acc := acc) (by omega)
      have st : forStep (.loc 3) (exec C W lrowB) (s1 32) [some (.str l0), some (.ref h.length), some (.str cur), o3, o4] (h ++ [.list (acc.map iN)]) = _ := e
      rw [st, split_more n32]
      simp only [optAll]
      cases hk : numP cur with
      | none => exact ⟨pre_app _ _, rfl⟩
      | some k =>
        simp only [Res.bind_ok, if_true]
        refine (lrow_loop hC rest [] (acc ++ [k]) (some (s1 32)) (some (iN k)) (fun q => nomatch q) (fun _ q => nomatch q) ar' (by simp; omega) (by simp; omega)).mono fun p h' z => ?_
        simp only [List.nil_append] at z
        revert z
        cases optAll numP (splitBy 32 rest) with
        | none => exact fun z => z
        | some ks => simp only [List.append_assoc, List.cons_append, List.nil_append]; exact fun z => z
    · have st : forStep (.loc 3) (exec C W lrowB) (s1 c) [some (.str l0), some (.ref h.length), some (.str cur), o3, o4] (h ++ [.list (acc.map iN)]) = .ok (.next, [some (.str l0), some (.ref h.length), some (.str (cur ++ [c])), some (s1 c), o4]) (h ++ [.list (acc.map iN)]) := by
        show exec C W lrowB [some (.str l0), some (.ref h.length), some (.str cur), some (s1 c), o4] _ = _
        unfold lrowB
        have t : (sem C (.cmp .Eq (.loc 3) (.const (.str [32])))).T [some (.str l0), some (.ref h.length), some (.str cur), some (s1 c), o4] (h ++ [.list (acc.map iN)]) = .ok false (h ++ [.list (acc.map iN)]) := by
          show Res.opt (some ([c] == [32])) _ = _
          rw [show ([c] == [32]) = false by simp [hc]]; rfl
        rw [st_if t]
        show (exec C W (.cons (.assign 2 (.bin .Add (.loc 2) (.loc 3))) .nil) _ _).bind _ = _
        rw [st_assign (v := .str (cur ++ [c])) (h' := h ++ [.list (acc.map iN)]) (by
          show (if cur.length + [c].length ≤ lim then Res.ok (Val.str (cur ++ [c])) (h ++ [.list (acc.map iN)]) else .stuck) = _
          rw [if_pos (by show _ ≤ 1048576; simp only [List.length_singleton]; omega)])]
        rfl
      rw [st]
      simp only [Res.bind_ok, if_true]
      have := lrow_loop hC (l0 := l0) rest (cur ++ [c]) acc (some (s1 c)) o4 (fun q => by
        rcases List.mem_append.mp q with q | q
        · exact n32 q
        · exact hc (List.mem_singleton.mp q).symm) (fun x hx => by
        rcases List.mem_append.mp hx with q | q
        · exact ac x q
        · rw [List.mem_singleton.mp q]; exact ar c (.head _)) ar' (by simp; omega) (by omega)
      rw [List.append_assoc, List.singleton_append] at this
      exact this

/-- the law's own reading of a line -/
theorem lrow_ok (h47 : F 47 = some f_law_number) (h50 : F 50 = some f_law_row) {l : List Nat} (asc : Asc l) (hl : l.length < 999999) :
    Wp (callN F W (n + 2) 50 [.str l] h) fun v h' => h <+: h' ∧ match rowP l with | some r => v = .ref h.length ∧ h'[h.length]? = some (.list (r.map iN)) | none => v = .none := by
  rw [callN_def h50 rfl, Wp_bind]
  show Wp (exec (callN F W (n + 1)) W f_law_row.body [some (.str l), none, none, none, none] h) _
  unfold f_law_row
  refine w_assign (.ref h.length) (h' := h ++ [.list []]) (by show newList [] h = _; exact newList_ok (by simp)) ?_
  refine w_assign (.str []) (h' := h ++ [.list []]) rfl ?_
  show Wp (exec (callN F W (n + 1)) W _ [some (.str l), some (.ref h.length), some (.str []), none, none] (h ++ [.list []])) _
  have t : (sem (callN F W (n + 1)) (.cmp .Eq (.loc 0) (.const (.str [])))).T [some (.str l), some (.ref h.length), some (.str []), none, none] (h ++ [.list []]) = .ok (decide (l = [])) (h ++ [.list []]) := by
    show Res.opt (some (l == [])) _ = _
    rw [Res.opt_some]; congr 1
    cases l <;> rfl
  by_cases q : l = []
  · rw [decide_eq_true q] at t
    refine w_then (.ref h.length) t rfl ?_
    unfold rowP
    rw [if_pos q]
    exact ⟨pre_app _ _, rfl, by simp⟩
  · rw [decide_eq_false q] at t
    refine w_skip t ?_
    refine w_for (s := ((l ++ [32]).map s1, fun _ => true)) (h' := h ++ [.list []]) (by
      rw [I_iobj]
      show ((if l.length + [32].length ≤ lim then Res.ok (Val.str (l ++ [32])) (h ++ [.list []]) else .stuck).bind fun v h => Res.opt (srcOf h v) h) = _
      rw [if_pos (by show _ ≤ 1048576; simp only [List.length_singleton]; omega), Res.bind_ok]
      have a2 : Asc (l ++ [32]) := fun x hx => by
        rcases List.mem_append.mp hx with q | q
        · exact asc x q
        · rw [List.mem_singleton.mp q]; omega
      rw [src_txt a2]
      rfl) ?_
    refine Wp.mono (lrow_loop (C := callN F W (n + 1)) (fun w h a => lnumber_ok h47 a) (l0 := l) l [] [] none none (fun q => nomatch q) (fun _ q => nomatch q) asc (by simp; omega) (by simp; omega)) fun p h' z => ?_
    rw [List.nil_append] at z
    unfold rowP
    rw [if_neg q]
    revert z
    cases optAll numP (splitBy 32 l) with
    | none =>
      intro z
      obtain ⟨fl, ρ⟩ := p
      obtain ⟨z1, z2⟩ := z
      have z2 : fl = .ret .none := z2
      subst z2
      exact ⟨z1, rfl⟩
    | some ks =>
      intro z
      obtain ⟨rfl, o3, o4, rfl⟩ := z
      rw [thenX_next]
      refine w_ret (.ref h.length) (h' := h ++ [.list (([] ++ ks).map iN)]) rfl ?_
      exact ⟨pre_app _ _, rfl, by simp⟩
end
end Mine


-- part L07c
set_option maxRecDepth 4000
set_option linter.unusedVariables false
set_option linter.unusedSimpArgs false
namespace Mine

theorem sp_last (c : Nat) (l : List Nat) : ∃ ls lst, splitBy c l = ls ++ [lst] := by
  have := sp_some (c := c) l
  cases h : (splitBy c l).reverse with
  | nil =>
    have e : splitBy c l = [] := by rw [← List.reverse_reverse (splitBy c l), h]; rfl
    rw [e] at this; simp at this
  | cons x r => exact ⟨r.reverse, x, by rw [← List.reverse_reverse (splitBy c l), h]; simp⟩
theorem sp_each {c : Nat} : ∀ {l w : List Nat}, w ∈ splitBy c l → w.length ≤ l.length
  | [], w, h => by rw [List.mem_singleton.mp h]; exact Nat.le_refl _
  | a :: l, w, h => by
    by_cases e : a = c
    · rw [show splitBy c (a :: l) = [] :: splitBy c l from if_pos e] at h
      rcases List.mem_cons.mp h with rfl | h
      · simp
      · have := sp_each h; simp only [List.length_cons]; omega
    · rw [show splitBy c (a :: l) = headAdd a (splitBy c l) from if_neg e] at h
      cases q : splitBy c l with
      | nil => rw [q] at h; rw [List.mem_singleton.mp (show w ∈ [[a]] from h)]; simp
      | cons v r =>
        rw [q] at h
        rcases List.mem_cons.mp (show w ∈ (a :: v) :: r from h) with rfl | h
        · have := sp_each (c := c) (l := l) (w := v) (by rw [q]; exact .head _); simp only [List.length_cons]; omega
        · have := sp_each (c := c) (l := l) (w := w) (by rw [q]; exact .tail _ h); simp only [List.length_cons]; omega
noncomputable abbrev rowsV (rs : List (List Nat)) : List (List Val) := rs.map fun r => r.map iN
noncomputable def readL (ls : List (List Nat)) (lst : List Nat) : Except Nat (List (List Nat)) :=
  if lst = [] then (match optAll rowP ls with | some rs => (match verdict (rowsV rs) with | some c => .error c | none => .ok rs) | none => .error 8) else .error 8
noncomputable def rowR (r : List Nat) (v : Val) (h : MH) : Prop := ∃ a, v = .ref a ∧ h[a]? = some (.list (r.map iN))
theorem rowR.mono {h h' : MH} {r : List Nat} {v : Val} (p : h <+: h') (q : rowR r v h) : rowR r v h' := let ⟨a, e, g⟩ := q; ⟨a, e, get_pre p g⟩
theorem rows_at {h : MH} : ∀ {rs : List (List Nat)} {vs : List Val}, RL rowR rs vs h → RowsAt h (rowsV rs) vs
  | [], _, q => q
  | r :: rs, _, ⟨v, ws, e, ⟨a, ev, g⟩, q⟩ => ⟨a, ws, by rw [e, ev], g, fun x hx => by
    obtain ⟨k, _, rfl⟩ := List.mem_map.mp hx
    trivial, rows_at q⟩
noncomputable def nameC (c : Nat) : List Nat := match c with | 1 => [78, 111, 80, 101, 111, 112, 108, 101] | 2 => [84, 111, 111, 77, 97, 110, 121] | 3 => [85, 110, 101, 118, 101, 110] | 4 => [66, 97, 100, 66, 105, 100] | _ => [78, 111, 84, 101, 120, 116]
/-- what the text comes to -/
noncomputable def Out (r : Except Nat (List (List Nat))) (v : Val) (h : MH) : Prop := match r with
  | .ok rs => ∃ a vs, v = .ref a ∧ h[a]? = some (.list vs) ∧ RL rowR rs vs h
  | .error c => v = .str (nameC c)

theorem optAll_len {α β : Type} {f : α → Option β} : ∀ {xs : List α} {ys : List β}, optAll f xs = some ys → ys.length = xs.length
  | [], ys, e => by cases e; rfl
  | x :: xs, ys, e => by
    rw [optAll] at e
    split at e
    · split at e
      · rename_i r hr; cases e; rw [List.length_cons, List.length_cons, optAll_len hr]
      · cases e
    · cases e

section
variable {F : Nat → Option MFun} {W n : Nat} {h : MH}

theorem read_x (h1 : F 1 = some f_is_number) (h3 : F 3 = some f_need_bids) (h4 : F 4 = some f_need_row) (h5 : F 5 = some f_look) (h19 : F 19 = some f_number_of) (h20 : F 20 = some f_row_of) (h21 : F 21 = some f_read)
    {t : List Nat} {ls : List (List Nat)} {lst : List Nat} (asc : Asc t) (hl : t.length ≤ 900000) (hs : splitBy 10 t = ls ++ [lst]) :
    Wx (callN F W (n + 5) 21 [.str t] h) (fun v h' => h <+: h' ∧ ∃ rs a vs, readL ls lst = .ok rs ∧ v = .ref a ∧ h'[a]? = some (.list vs) ∧ RL rowR rs vs h') (fun c h' => h <+: h' ∧ readL ls lst = .error c) := by
  rw [callN_def h21 rfl]
  show Wx ((exec (callN F W (n + 4)) W f_read.body [some (.str t), none, none, none] h).bind retOf) _ _
  unfold f_read
  have ll := sp_count (c := 10) t
  rw [hs, List.length_append, List.length_singleton] at ll
  rw [st_assign (v := .ref h.length) (h' := h ++ [.list ((ls ++ [lst]).map .str)]) (by
    show newList ((splitBy 10 t).map .str) h = _
    rw [hs]
    exact newList_ok (by rw [List.length_map, List.length_append, List.length_singleton]; omega))]
  have g0 : (h ++ [MObj.list ((ls ++ [lst]).map Val.str)])[h.length]? = some (.list ((ls ++ [lst]).map .str)) := by simp
  have p0 : h <+: h ++ [MObj.list ((ls ++ [lst]).map Val.str)] := pre_app _ _
  generalize h ++ [MObj.list ((ls ++ [lst]).map Val.str)] = h1' at g0 p0 ⊢
  show Wx ((exec (callN F W (n + 4)) W _ [some (.str t), some (.ref h.length), none, none] h1').bind retOf) _ _
  have em : (ls ++ [lst]).map Val.str = ls.map Val.str ++ [.str lst] := by rw [List.map_append]; rfl
  rw [em] at g0
  have s0 : subV h1' (.ref h.length) (.int (-1)) = some (.str lst) := by
    have hl : (ls.map Val.str ++ [Val.str lst]).length = ls.length + 1 := by simp
    simp only [subV, seqOf_list g0, Option.bind_some, hl]
    have : idxOf (-1) (ls.length + 1) = some ls.length := by unfold idxOf; rw [if_neg (by omega), if_pos (by omega)]; congr 1; omega
    rw [this, Option.bind_some, List.getElem?_append_right (by simp)]
    simp
  have t0 : (sem (callN F W (n + 4)) (.cmp .NotEq (.sub (.loc 1) (.un .USub (.const (.int 1)))) (.const (.str [])))).T [some (.str t), some (.ref h.length), none, none] h1' = .ok (!decide (lst = [])) h1' := by
    rw [T_cmp, E_sub]
    show ((Res.opt (subV h1' (.ref h.length) (.int (-1))) h1').bind fun v h => Res.opt (cmpV h .NotEq v (.str [])) h) = _
    rw [s0]
    show Res.opt (some (!(lst == []))) h1' = _
    rw [Res.opt_some]; congr 2
    cases lst <;> rfl
  by_cases ql : lst = []
  · rw [decide_eq_true ql] at t0
    rw [x_skip t0]
    have e1 : (sem (callN F W (n + 4)) (.slice (.loc 1) .nil (.cons (.un .USub (.const (.int 1))) .nil))).E [some (.str t), some (.ref h.length), none, none] h1' = .ok (.ref h1'.length) (h1' ++ [.list (ls.map Val.str)]) := by
      show sliceV h1' (.ref h.length) .none (.int (-1)) = _
      simp only [sliceV, g0]
      unfold sliceL cutAt
      simp only
      rw [if_neg (by omega)]
      simp only
      rw [List.drop_zero, List.length_append, List.length_singleton, show ((-1 : Int) + (((ls.map Val.str).length + 1 : Nat) : Int)).toNat = (ls.map Val.str).length by omega, List.take_left]
      exact newList_ok (by rw [List.length_map]; omega)
    have g1 : (h1' ++ [MObj.list (ls.map Val.str)])[h1'.length]? = some (.list (ls.map Val.str)) := by simp
    have key := comp_x (f := compStep (.loc 3) (sem (callN F W (n + 4)) (.const (.bool true))).T (sem (callN F W (n + 4)) (.call 20 (.cons (.loc 3) .nil))).E [some (.str t), some (.ref h.length), none, none]) (ck_list g1) Val.str rowP rowR (fun _ _ _ _ p r => r.mono p) ls _ (List.prefix_refl _) (fun w hw h' ph => by
      show Wx ((callN F W (n + 2 + 2) 20 [.str w] h').bind fun v h => .ok (some v) h) _ _
      have wm : w ∈ splitBy 10 t := by rw [hs]; exact List.mem_append.mpr (.inl hw)
      refine Wx.bind ((rowof_x h19 h20 (fun x hx => asc x (sp_mem wm x hx)) (Nat.le_trans (sp_each wm) (by omega))).mono (fun v h2 z => ?_) fun c h2 z => z)
      obtain ⟨z1, r, a, z2, rfl, z3⟩ := z
      exact ⟨z1, r, _, z2, rfl, a, rfl, z3⟩)
    rw [X_cons', X_assign, E_comp, I_iobj, e1, Res.bind_ok, srcOf_list g1, Res.opt_some, Res.bind_ok]
    refine Wx.bind (Wx.bind (Wx.bind (Wx.bind (key.mono (fun vs h2 z => ?_) fun c h2 z => ⟨(p0.trans (pre_app _ _)).trans z.1, ?_⟩))))
    · obtain ⟨z1, rs, z2, z3⟩ := z
      have lv := z3.length
      have lr := optAll_len z2
      rw [newList_ok (by omega)]
      show Wx (exec (callN F W (n + 4)) W (.cons (.expr (.call 5 (.cons (.loc 2) .nil))) (.cons (.ret (.loc 2)) .nil)) [some (.str t), some (.ref h.length), some (.ref h2.length), none] (h2 ++ [.list vs])) (fun a h => Wx (retOf a h) _ _) _
      have ga : (h2 ++ [MObj.list vs])[h2.length]? = some (.list vs) := by simp
      have z3' : RL rowR rs vs (h2 ++ [.list vs]) := z3.mono fun b v q => q.mono (pre_app _ _)
      have lk := look_x (F := F) (W := W) (n := n) h1 h3 h4 h5 ga (rows_at z3')
      have pf : h <+: h2 ++ [MObj.list vs] := ((p0.trans (pre_app _ _)).trans z1).trans (pre_app _ _)
      have el : (sem (callN F W (n + 4)) (.call 5 (.cons (.loc 2) .nil))).E [some (.str t), some (.ref h.length), some (.ref h2.length), none] (h2 ++ [.list vs]) = resOf (verdict (rowsV rs)) (h2 ++ [.list vs]) := lk
      unfold readL
      rw [if_pos ql, z2]
      simp only
      cases hv : verdict (rowsV rs) with
      | some c =>
        rw [hv] at el
        rw [X_cons', X_expr, el]
        exact ⟨pf, rfl⟩
      | none =>
        rw [hv] at el
        rw [st_expr (v := .none) (h' := h2 ++ [.list vs]) el, st_ret (v := .ref h2.length) (h' := h2 ++ [.list vs]) rfl]
        exact ⟨pf, rs, _, vs, rfl, rfl, ga, z3'⟩
    · obtain ⟨_, rfl, z2⟩ := z
      unfold readL
      rw [if_pos ql, z2]
  · rw [decide_eq_false ql] at t0
    rw [x_raise t0]
    exact ⟨p0, by unfold readL; rw [if_neg ql]⟩
end
end Mine


-- part L07d
set_option maxRecDepth 4000
set_option linter.unusedVariables false
set_option linter.unusedSimpArgs false
namespace Mine

noncomputable def roR (a0 : Nat) (o : Option (List Nat)) (v : Val) (h : MH) : Prop := match o with
  | some r => ∃ a, v = .ref a ∧ a0 < a ∧ h[a]? = some (.list (r.map iN))
  | none => v = .none
theorem roR.mono {a0 : Nat} {h h' : MH} (k : ∀ i o, a0 < i → h[i]? = some o → h'[i]? = some o) {o : Option (List Nat)} {v : Val} (q : roR a0 o v h) : roR a0 o v h' := by
  cases o with
  | none => exact q
  | some r => obtain ⟨a, e, l, g⟩ := q; exact ⟨a, e, l, k _ _ l g⟩
structure LI (h hh : MH) (rows : List (Option (List Nat))) : Prop where
  pre : h <+: hh
  at' : ∃ vs, hh[h.length]? = some (.list vs) ∧ RL (roR h.length) rows vs hh

noncomputable def llinesB : MStmt := .cons (.ifs (.cmp .Eq (.loc 3) (.const (.str [10]))) (.cons (.expr (.meth .append (.loc 1) (.cons (.call 50 (.cons (.loc 2) .nil)) .nil))) (.cons (.assign 2 (.const (.str []))) .nil)) (.cons (.assign 2 (.bin .Add (.loc 2) (.loc 3))) .nil)) .nil

section
variable {F : Nat → Option MFun} {W n : Nat} {h : MH}

theorem me_app {hh : MH} {a : Nat} {vs : List Val} {v : Val} (g : hh[a]? = some (.list vs)) (hl : vs.length < 1000000) : meV hh .append (.ref a) [v] = .ok .none (hh.set a (.list (vs ++ [v]))) := by
  show meApp hh (.ref a) [v] = _
  unfold meApp onL
  simp only [g]
  show (if vs.length < lim then Res.ok Val.none (hh.set a (.list (vs ++ [v]))) else .stuck) = _
  rw [if_pos (by show _ < 1048576; omega)]

theorem llines_line {C : Cf} (hC : ∀ l h, Asc l → l.length < 999999 → Wp (C 50 [.str l] h) fun v h' => h <+: h' ∧ match rowP l with | some r => v = .ref h.length ∧ h'[h.length]? = some (.list (r.map iN)) | none => v = .none)
    {t0 cur : List Nat} {hh : MH} {rows : List (Option (List Nat))} (I : LI h hh rows) (ac : Asc cur) (lc : cur.length < 999999) (lr : rows.length < 1000000) :
    Wp (exec C W llinesB [some (.str t0), some (.ref h.length), some (.str cur), some (s1 10)] hh) fun p h' => p = (.next, [some (.str t0), some (.ref h.length), some (.str []), some (s1 10)]) ∧ LI h h' (rows ++ [rowP cur]) := by
  obtain ⟨pre, vs, g, r⟩ := I
  have lt : h.length < hh.length := (List.getElem?_eq_some_iff.mp g).1
  obtain ⟨v, h1, e1, p1, q⟩ := (hC cur hh ac lc).get
  have g1 := get_pre p1 g
  have lv := r.length
  unfold llinesB
  rw [st_if (x := true) (h' := hh) rfl]
  show Wp ((exec C W (.cons (.expr (.meth .append (.loc 1) (.cons (.call 50 (.cons (.loc 2) .nil)) .nil))) (.cons (.assign 2 (.const (.str []))) .nil)) [some (.str t0), some (.ref h.length), some (.str cur), some (s1 10)] hh).bind _) _
  rw [st_expr (v := .none) (h' := h1.set h.length (.list (vs ++ [v]))) (by
    rw [E_meth]
    show (if meOk hh .append (.ref h.length) = true then ((C 50 [.str cur] hh).bind fun v h => .ok [v] h).bind fun vs h' => meV h' .append (.ref h.length) vs else .stuck) = _
    rw [if_pos (by show isListAt hh h.length = true; unfold isListAt; rw [g]), e1]
    show meV h1 .append (.ref h.length) [v] = _
    exact me_app g1 (by omega))]
  rw [st_assign (v := .str []) (h' := h1.set h.length (.list (vs ++ [v]))) rfl]
  refine ⟨rfl, pre_set (pre.trans p1) (Nat.le_refl _), vs ++ [v], ?_, ?_⟩
  · rw [List.getElem?_set_self (by have := len_pre p1; omega)]
  · have k : ∀ i o, h.length < i → h1[i]? = some o → (h1.set h.length (.list (vs ++ [v])))[i]? = some o := fun i o hi e => by rw [List.getElem?_set_ne (by omega)]; exact e
    refine RL.snoc ?_ (r.mono fun b w z => (z.mono fun i o _ e => get_pre p1 e).mono k)
    revert q
    cases rowP cur with
    | none => exact fun q => q
    | some r => exact fun ⟨e, g⟩ => ⟨hh.length, e, lt, k _ _ lt g⟩

theorem llines_loop {C : Cf} (hC : ∀ l h, Asc l → l.length < 999999 → Wp (C 50 [.str l] h) fun v h' => h <+: h' ∧ match rowP l with | some r => v = .ref h.length ∧ h'[h.length]? = some (.list (r.map iN)) | none => v = .none) {t0 : List Nat} :
    ∀ (rest cur : List Nat) (rows : List (Option (List Nat))) (hh : MH) (o3 : Option Val), LI h hh rows → 10 ∉ cur → Asc cur → Asc rest → cur.length + rest.length < 900000 → rows.length + rest.length < 900000 →
    Wp (forLoop (forStep (.loc 3) (exec C W llinesB)) (fun _ => true) (rest.map s1) [some (.str t0), some (.ref h.length), some (.str cur), o3] hh) fun p h' =>
      ∃ ls lst o3', splitBy 10 (cur ++ rest) = ls ++ [lst] ∧ p = (.next, [some (.str t0), some (.ref h.length), some (.str lst), o3']) ∧ LI h h' (rows ++ ls.map rowP)
  | [], cur, rows, hh, o3, I, n10, ac, ar, l1, l2 => ⟨[], cur, o3, by rw [List.append_nil, split_one n10]; rfl, rfl, by rw [List.map_nil, List.append_nil]; exact I⟩
  | c :: rest, cur, rows, hh, o3, I, n10, ac, ar, l1, l2 => by
    have ar' : Asc rest := fun x hx => ar x (.tail _ hx)
    simp only [List.length_cons] at l1 l2
    rw [List.map_cons, forLoop]
    by_cases hc : c = 10
    · subst hc
      obtain ⟨p, h1, e1, rfl, I1⟩ := (llines_line (W := W) hC (t0 := t0) I ac (by omega) (by omega)).get
      have st : forStep (.loc 3) (exec C W llinesB) (s1 10) [some (.str t0), some (.ref h.length), some (.str cur), o3] hh = _ := e1
      rw [st]
      simp only [Res.bind_ok, if_true]
      refine (llines_loop hC rest [] (rows ++ [rowP cur]) h1 (some (s1 10)) I1 (fun q => nomatch q) (fun _ q => nomatch q) ar' (by simp; omega) (by simp; omega)).mono fun p h' z => ?_
      obtain ⟨ls, lst, o3', z1, z2, z3⟩ := z
      rw [List.nil_append] at z1
      exact ⟨cur :: ls, lst, o3', by rw [split_more n10, z1]; rfl, z2, by simpa using z3⟩
    · have st : forStep (.loc 3) (exec C W llinesB) (s1 c) [some (.str t0), some (.ref h.length), some (.str cur), o3] hh = .ok (.next, [some (.str t0), some (.ref h.length), some (.str (cur ++ [c])), some (s1 c)]) hh := by
        show exec C W llinesB [some (.str t0), some (.ref h.length), some (.str cur), some (s1 c)] hh = _
        unfold llinesB
        have t : (sem C (.cmp .Eq (.loc 3) (.const (.str [10])))).T [some (.str t0), some (.ref h.length), some (.str cur), some (s1 c)] hh = .ok false hh := by
          show Res.opt (some ([c] == [10])) _ = _
          rw [show ([c] == [10]) = false by simp [hc]]; rfl
        rw [st_if t]
        show (exec C W (.cons (.assign 2 (.bin .Add (.loc 2) (.loc 3))) .nil) _ _).bind _ = _
        rw [st_assign (v := .str (cur ++ [c])) (h' := hh) (by
          show (if cur.length + [c].length ≤ lim then Res.ok (Val.str (cur ++ [c])) hh else .stuck) = _
          rw [if_pos (by show _ ≤ 1048576; simp only [List.length_singleton]; omega)])]
        rfl
      rw [st]
      simp only [Res.bind_ok, if_true]
      have := llines_loop hC (t0 := t0) rest (cur ++ [c]) rows hh (some (s1 c)) I (fun q => by
        rcases List.mem_append.mp q with q | q
        · exact n10 q
        · exact hc (List.mem_singleton.mp q).symm) (fun x hx => by
        rcases List.mem_append.mp hx with q | q
        · exact ac x q
        · rw [List.mem_singleton.mp q]; exact ar c (.head _)) ar' (by simp; omega) (by omega)
      rw [List.append_assoc, List.singleton_append] at this
      exact this

noncomputable def linesP (ls : List (List Nat)) (lst : List Nat) : List (Option (List Nat)) := if lst = [] then ls.map rowP else [none]
theorem llines_ok (h47 : F 47 = some f_law_number) (h50 : F 50 = some f_law_row) (h51 : F 51 = some f_law_lines) {t : List Nat} (asc : Asc t) (hl : t.length < 800000) {ls : List (List Nat)} {lst : List Nat} (hs : splitBy 10 t = ls ++ [lst]) :
    Wp (callN F W (n + 3) 51 [.str t] h) fun v h' => h <+: h' ∧ ∃ a vs, v = .ref a ∧ h'[a]? = some (.list vs) ∧ RL (roR h.length) (linesP ls lst) vs h' := by
  rw [callN_def h51 rfl, Wp_bind]
  show Wp (exec (callN F W (n + 2)) W f_law_lines.body [some (.str t), none, none, none] h) _
  unfold f_law_lines
  refine w_assign (.ref h.length) (h' := h ++ [.list []]) (by show newList [] h = _; exact newList_ok (by simp)) ?_
  refine w_assign (.str []) (h' := h ++ [.list []]) rfl ?_
  show Wp (exec (callN F W (n + 2)) W _ [some (.str t), some (.ref h.length), some (.str []), none] (h ++ [.list []])) _
  refine w_for (s := (t.map s1, fun _ => true)) (h' := h ++ [.list []]) (by
    rw [I_iobj]
    show Res.opt (srcOf (h ++ [.list []]) (.str t)) _ = _
    rw [src_txt asc]; rfl) ?_
  refine Wp.mono (llines_loop (C := callN F W (n + 2)) (fun l h a b => lrow_ok h47 h50 a b) (t0 := t) t [] [] _ none ⟨pre_app _ _, [], by simp, rfl⟩ (fun q => nomatch q) (fun _ q => nomatch q) asc (by simp; omega) (by simp; omega)) fun p h1 z => ?_
  obtain ⟨ls', lst', o3, z1, rfl, I⟩ := z
  rw [List.nil_append, hs] at z1
  obtain ⟨e1, e2⟩ := List.append_inj' z1 rfl
  have e2 : lst = lst' := by simpa using e2
  subst e1 e2
  rw [List.nil_append] at I
  obtain ⟨pre, vs, g, r⟩ := I
  rw [thenX_next]
  unfold linesP
  have t1 : (sem (callN F W (n + 2)) (.cmp .NotEq (.loc 2) (.const (.str [])))).T [some (.str t), some (.ref h.length), some (.str lst), o3] h1 = .ok (!decide (lst = [])) h1 := by
    show Res.opt (some (!(lst == []))) h1 = _
    rw [Res.opt_some]; congr 2
    cases lst <;> rfl
  by_cases q : lst = []
  · rw [decide_eq_true q] at t1
    rw [if_pos q]
    refine w_skip t1 (w_ret (.ref h.length) (h' := h1) rfl ?_)
    exact ⟨pre, _, vs, rfl, g, r⟩
  · rw [decide_eq_false q] at t1
    rw [if_neg q]
    refine w_then (.ref h1.length) (h'' := h1 ++ [.list [.none]]) t1 (by show newList [.none] h1 = _; exact newList_ok (by simp)) ?_
    exact ⟨pre.trans (pre_app _ _), _, [.none], rfl, by simp, .none, [], rfl, rfl, rfl⟩

/-- is there a none -/
theorem in_none {a0 : Nat} : ∀ {rows : List (Option (List Nat))} {vs : List Val}, RL (roR a0) rows vs h → inL h .none vs = some (decide (optAll id rows = none))
  | [], _, q => by rw [show _ = [] from q]; rfl
  | o :: rows, _, ⟨v, ws, e, r, q⟩ => by
    have ih := in_none q
    rw [e, inL, ih]
    cases o with
    | none =>
      rw [show v = .none from r]
      rfl
    | some r' =>
      obtain ⟨a, rfl, _, g⟩ := r
      have : eqV 4 h (.ref a) .none = some false := by
        show Option.map _ (seqOf h a) = _
        rw [seqOf_list g]; rfl
      rw [this]
      show some (false || decide (optAll id rows = none)) = _
      rw [Bool.false_or]
      cases hq : optAll id rows with
      | none => rw [show optAll id (some r' :: rows) = none by simp only [optAll, id, hq]]
      | some z => rw [show optAll id (some r' :: rows) = some (r' :: z) by simp only [optAll, id, hq]]; rfl
theorem all_some {a0 : Nat} : ∀ {rows : List (Option (List Nat))} {vs : List Val} {rs : List (List Nat)}, optAll id rows = some rs → RL (roR a0) rows vs h → RL rowR rs vs h
  | [], _, _, e, q => by cases e; exact q
  | o :: rows, _, rs, e, ⟨v, ws, ev, r, q⟩ => by
    cases o with
    | none => cases e
    | some r' =>
      cases hq : optAll id rows with
      | none => rw [show optAll id (some r' :: rows) = none by simp only [optAll, id, hq]] at e; cases e
      | some z =>
        rw [show optAll id (some r' :: rows) = some (r' :: z) by simp only [optAll, id, hq]] at e
        cases e
        obtain ⟨a, e1, _, g⟩ := r
        exact ⟨v, ws, ev, ⟨a, e1, g⟩, all_some hq q⟩
theorem optAll_map : ∀ ls : List (List Nat), optAll id (ls.map rowP) = optAll rowP ls
  | [] => rfl
  | l :: ls => by rw [List.map_cons, optAll, optAll, optAll_map ls]; rfl

/-- loops that may return -/
theorem forLoop_ret {f : Val → Rho → MH → Res (MFlow × Rho)} {ck : MH → Bool} (P : Rho → Prop) (bad : Val → Option Val) (hc : ck h = true) : ∀ (xs : List Val) (ρ : Rho),
    (∀ x ∈ xs, ∀ ρ, P ρ → match bad x with | some v => ∃ ρ', f x ρ h = .ok (.ret v, ρ') h | none => ∃ ρ', f x ρ h = .ok (.next, ρ') h ∧ P ρ') → P ρ →
    match xs.findSome? bad with | some v => ∃ ρ', forLoop f ck xs ρ h = .ok (.ret v, ρ') h | none => ∃ ρ', forLoop f ck xs ρ h = .ok (.next, ρ') h ∧ P ρ'
  | [], ρ, _, p => ⟨ρ, rfl, p⟩
  | x :: xs, ρ, hf, p => by
    have hx := hf x (.head _) ρ p
    rw [List.findSome?_cons]
    cases e : bad x with
    | some c =>
      rw [e] at hx
      obtain ⟨ρ', hx⟩ := hx
      simp only
      exact ⟨ρ', by rw [forLoop, hx]; rfl⟩
    | none =>
      rw [e] at hx
      obtain ⟨ρ1, e1, p1⟩ := hx
      have ih := forLoop_ret P bad hc xs ρ1 (fun y hy => hf y (.tail _ hy)) p1
      simp only at ih ⊢
      rw [forLoop, e1]
      simp only [Res.bind_ok, hc, if_true]
      exact ih
end
end Mine


-- part L07e
set_option maxRecDepth 4000
set_option linter.unusedVariables false
set_option linter.unusedSimpArgs false
namespace Mine

theorem findSome_map {α β γ : Type} {b : α → Option γ} {f : α → Option β} {g : β → γ} (l : List α) (e : ∀ x ∈ l, b x = (f x).map g) : l.findSome? b = (l.findSome? f).map g := by
  induction l with
  | nil => rfl
  | cons x l ih =>
    rw [List.findSome?_cons, List.findSome?_cons, e x (.head _)]
    cases f x with
    | none => exact ih fun y hy => e y (.tail _ hy)
    | some c => rfl
noncomputable abbrev sC (c : Nat) : Val := .str (nameC c)
noncomputable def oneBad (v : Val) : Option Val := match v with | .int i => if i > 1000000000000 then some (sC 4) else none | _ => none
theorem oneBad_eq (k : Nat) : oneBad (iN k) = (bidBad (iN k)).map sC := by
  unfold oneBad bidBad okBid iN
  by_cases q : (k : Int) > 1000000000000
  · simp only [if_pos q, show ¬ (0 ≤ (k : Int) ∧ (k : Int) ≤ 1000000000000) by omega, decide_false, Bool.false_eq_true, if_false]; rfl
  · simp only [if_neg q, show (0 ≤ (k : Int) ∧ (k : Int) ≤ 1000000000000) by omega, decide_true, if_true, and_self]; rfl
noncomputable def rowBadV (m : Nat) (r : List Val) : Option Val := if r.length = m then r.findSome? oneBad else some (sC 3)
theorem rowBad_eq (m : Nat) (r : List Nat) : rowBadV m (r.map iN) = (rowBad m (r.map iN)).map sC := by
  unfold rowBadV rowBad
  split
  · refine findSome_map _ fun x hx => ?_
    obtain ⟨k, _, rfl⟩ := List.mem_map.mp hx
    exact oneBad_eq k
  · rfl

theorem RowsAt.findV {h : MH} {γ : Type} {f : List Val → Option γ} {b : Val → Option γ} (hb : ∀ i r, h[i]? = some (.list r) → b (.ref i) = f r) : ∀ {rs : List (List Val)} {vs : List Val}, RowsAt h rs vs → vs.findSome? b = rs.findSome? f
  | [], _, q => by rw [show _ = [] from q]; rfl
  | r :: rs, _, ⟨i, ws, e, hi, _, q⟩ => by rw [e, List.findSome?_cons, List.findSome?_cons, hb i r hi, RowsAt.findV hb q]
section
variable {F : Nat → Option MFun} {W n : Nat} {h : MH}

theorem due_one {C : Cf} {a m : Nat} {r : List Val} {o1 o2 : Option Val} (hr : ∃ ks : List Nat, r = ks.map iN) (ga : h[a]? = some (.list r)) {b : Nat} (hb : (sem C (.bi .len (.cons (.sub (.loc 0) (.const (.int 0))) .nil))).E [some (.ref b), some (.ref a), o2] h = .ok (.int (m : Nat)) h) :
    match rowBadV m r with
    | some v => ∃ ρ', exec C W (.cons (.ifs (.cmp .NotEq (.bi .len (.cons (.loc 1) .nil)) (.bi .len (.cons (.sub (.loc 0) (.const (.int 0))) .nil))) (.cons (.ret (.const (.str [85, 110, 101, 118, 101, 110]))) .nil) .nil) (.cons (.fors (.loc 2) (.iobj (.loc 1)) (.cons (.ifs (.cmp .Gt (.loc 2) (.const (.int 1000000000000))) (.cons (.ret (.const (.str [66, 97, 100, 66, 105, 100]))) .nil) .nil) .nil)) .nil)) [some (.ref b), some (.ref a), o2] h = .ok (.ret v, ρ') h
    | none => ∃ o2', exec C W (.cons (.ifs (.cmp .NotEq (.bi .len (.cons (.loc 1) .nil)) (.bi .len (.cons (.sub (.loc 0) (.const (.int 0))) .nil))) (.cons (.ret (.const (.str [85, 110, 101, 118, 101, 110]))) .nil) .nil) (.cons (.fors (.loc 2) (.iobj (.loc 1)) (.cons (.ifs (.cmp .Gt (.loc 2) (.const (.int 1000000000000))) (.cons (.ret (.const (.str [66, 97, 100, 66, 105, 100]))) .nil) .nil) .nil)) .nil)) [some (.ref b), some (.ref a), o2] h = .ok (.next, [some (.ref b), some (.ref a), o2']) h := by
  obtain ⟨ks, rfl⟩ := hr
  have l : biV h .len [.ref a] = .ok (.int (ks.map iN).length) h := by simp [biV, bi1, biL, seqOf_list ga]
  have t : (sem C (.cmp .NotEq (.bi .len (.cons (.loc 1) .nil)) (.bi .len (.cons (.sub (.loc 0) (.const (.int 0))) .nil)))).T [some (.ref b), some (.ref a), o2] h = .ok (!decide ((ks.map iN).length = m)) h := by
    rw [T_cmp, E_bi]
    show ((biV h .len [.ref a]).bind _) = _
    rw [l, Res.bind_ok, hb]
    show Res.opt (some (!(((ks.map iN).length : Int) == (m : Int)))) h = _
    rw [Res.opt_some]; congr 2
    by_cases q : (ks.map iN).length = m
    · rw [q]; simp
    · have : ¬ ((ks.map iN).length : Int) = m := by omega
      rw [decide_eq_false q]; simpa using this
  unfold rowBadV
  by_cases q : (ks.map iN).length = m
  · rw [if_pos q]
    rw [decide_eq_true q] at t
    rw [x_skip t, st_fors (s := (ks.map iN, fun h' => decide (h'[a]? = some (.list (ks.map iN))))) (h' := h) (by
      rw [I_iobj]
      show Res.opt (srcOf h (.ref a)) h = _
      rw [srcOf_list ga]; rfl)]
    have key := forLoop_ret (h := h) (f := forStep (.loc 2) (exec C W (.cons (.ifs (.cmp .Gt (.loc 2) (.const (.int 1000000000000))) (.cons (.ret (.const (.str [66, 97, 100, 66, 105, 100]))) .nil) .nil) .nil))) (ck := fun h' => decide (h'[a]? = some (.list (ks.map iN)))) (fun ρ => ∃ o, ρ = [some (.ref b), some (.ref a), o]) oneBad (by simp [ga]) (ks.map iN) [some (.ref b), some (.ref a), o2] (fun x hx ρ hρ => by
      obtain ⟨o, rfl⟩ := hρ
      obtain ⟨k, _, rfl⟩ := List.mem_map.mp hx
      have t : (sem C (.cmp .Gt (.loc 2) (.const (.int 1000000000000)))).T [some (.ref b), some (.ref a), some (iN k)] h = .ok (decide ((k : Int) > 1000000000000)) h := rfl
      show match (if (k : Int) > 1000000000000 then some (sC 4) else none) with | some v => _ | none => _
      by_cases q : (k : Int) > 1000000000000
      · rw [decide_eq_true q] at t
        rw [if_pos q]
        refine ⟨[some (.ref b), some (.ref a), some (iN k)], ?_⟩
        show exec C W (.cons _ .nil) [some (.ref b), some (.ref a), some (iN k)] h = _
        rw [st_if t]; rfl
      · rw [decide_eq_false q] at t
        rw [if_neg q]
        refine ⟨[some (.ref b), some (.ref a), some (iN k)], ?_, _, rfl⟩
        show exec C W (.cons _ .nil) [some (.ref b), some (.ref a), some (iN k)] h = _
        rw [x_skip t]; rfl) ⟨_, rfl⟩
    cases e : (ks.map iN).findSome? oneBad with
    | some v =>
      rw [e] at key
      obtain ⟨ρ', e2⟩ := key
      exact ⟨ρ', by rw [e2]; rfl⟩
    | none =>
      rw [e] at key
      obtain ⟨ρ', e2, o, rfl⟩ := key
      exact ⟨o, by rw [e2]; rfl⟩
  · rw [if_neg q]
    rw [decide_eq_false q] at t
    exact ⟨[some (.ref b), some (.ref a), o2], by rw [st_if t]; rfl⟩

theorem due_ok (h39 : F 39 = some f_law_due) {a a0 : Nat} {vs : List Val} {rows : List (Option (List Nat))} (g : h[a]? = some (.list vs)) (R : RL (roR a0) rows vs h) :
    Wp (callN F W (n + 1) 39 [.ref a] h) fun v h' => h <+: h' ∧ match optAll id rows with | none => v = sC 8 | some rs => (match verdict (rowsV rs) with | some c => v = sC c | none => v = .ref a) := by
  rw [callN_def h39 rfl, Wp_bind]
  show Wp (exec (callN F W n) W f_law_due.body [some (.ref a), none, none] h) _
  unfold f_law_due
  have t1 : (sem (callN F W n) (.cmp .In (.const .none) (.loc 0))).T [some (.ref a), none, none] h = .ok (decide (optAll id rows = none)) h := by
    rw [T_cmp]
    show Res.opt (inV h .none (.ref a)) h = _
    have : inV h .none (.ref a) = inL h .none vs := by
      show (match seqOf h a with | some (true, xs) => inL h .none xs | some (false, _) => none | none => none) = _
      rw [seqOf_list g]
    rw [this, in_none R]; rfl
  cases hq : optAll id rows with
  | none =>
    rw [hq, decide_eq_true rfl] at t1
    exact w_then (sC 8) t1 rfl ⟨List.prefix_refl _, rfl⟩
  | some rs =>
    rw [hq, decide_eq_false (by simp)] at t1
    refine w_skip t1 ?_
    have R' := all_some hq R
    have lv := R'.length
    have p1 : h <+: h ++ [MObj.list []] := pre_app _ _
    have g1 := get_pre p1 g
    have g2 : (h ++ [MObj.list []])[h.length]? = some (.list []) := by simp
    have e2 : (sem (callN F W n) (.lst .nil)).E [some (.ref a), none, none] h = .ok (.ref h.length) (h ++ [.list []]) := by
      show newList [] h = _
      exact newList_ok (by simp)
    have R1 : RL rowR rs vs (h ++ [MObj.list []]) := R'.mono fun b v q => q.mono p1
    generalize h ++ [MObj.list []] = h1 at p1 g1 g2 e2 R1
    have t2 : (sem (callN F W n) (.cmp .Eq (.loc 0) (.lst .nil))).T [some (.ref a), none, none] h = .ok (decide (rs = [])) h1 := by
      rw [T_cmp, E_loc, locV_zero, Res.bind_ok, e2, Res.bind_ok]
      show Res.opt (eqV 8 h1 (.ref a) (.ref h.length)) h1 = _
      have : eqV 8 h1 (.ref a) (.ref h.length) = some (decide (rs = [])) := by
        rw [eqV]
        simp only [seqOf_list g1, seqOf_list g2]
        cases rs with
        | nil => rw [show vs = [] from R']; rfl
        | cons r rs =>
          obtain ⟨v, ws, e, _⟩ := R'
          rw [e]; rfl
      rw [this]; rfl
    cases rs with
    | nil =>
      rw [decide_eq_true rfl] at t2
      exact w_then (sC 1) t2 rfl ⟨p1, rfl⟩
    | cons r rs =>
      rw [decide_eq_false (by simp)] at t2
      refine w_skip t2 ?_
      have ⟨v0, ws, ev, ⟨i, ei, gi⟩, _⟩ := R1
      have s0 : subV h1 (.ref a) (.int 0) = some (.ref i) := sub_ref (seqOf_list g1) (by omega) (by rw [ev, ei]; rfl)
      have l : biV h1 .len [.ref a] = .ok (.int vs.length) h1 := by simp [biV, bi1, biL, seqOf_list g1]
      have l0 : biV h1 .len [.ref i] = .ok (.int r.length) h1 := by simp [biV, bi1, biL, seqOf_list gi]
      have e0 : ∀ o o', (sem (callN F W n) (.bi .len (.cons (.sub (.loc 0) (.const (.int 0))) .nil))).E [some (.ref a), o, o'] h1 = .ok (.int r.length) h1 := fun o o' => by
        rw [E_bi, Es_cons, E_sub]
        show ((((Res.opt (subV h1 (.ref a) (.int 0)) h1)).bind _).bind _) = _
        rw [s0]
        show biV h1 .len [.ref i] = _
        exact l0
      have ve : verdict (rowsV (r :: rs)) = if 9 < (r :: rs).length ∨ 40 < r.length then some 2 else (rowsV (r :: rs)).findSome? (rowBad r.length) := by
        show (if 9 < (rowsV (r :: rs)).length ∨ 40 < (r.map iN).length then some 2 else (rowsV (r :: rs)).findSome? (rowBad (r.map iN).length)) = _
        rw [List.length_map, List.length_map]
      have t3 : (sem (callN F W n) (.or (.cmp .Gt (.bi .len (.cons (.loc 0) .nil)) (.const (.int 9))) (.cmp .Gt (.bi .len (.cons (.sub (.loc 0) (.const (.int 0))) .nil)) (.const (.int 40))))).T [some (.ref a), none, none] h1 = .ok (decide (9 < (r :: rs).length ∨ 40 < r.length)) h1 := by
        rw [T_or, T_cmp, E_bi]
        show (((biV h1 .len [.ref a]).bind _).bind _) = _
        rw [l]
        show ((Res.opt (some (decide ((vs.length : Int) > 9))) h1).bind _) = _
        rw [lv, Res.opt_some, Res.bind_ok]
        by_cases q : 9 < (r :: rs).length
        · rw [decide_eq_true (show ((r :: rs).length : Int) > 9 by omega), if_pos rfl, decide_eq_true (.inl q)]
        · rw [decide_eq_false (show ¬ ((r :: rs).length : Int) > 9 by omega), if_neg (by decide), T_cmp, e0]
          show Res.opt (some (decide ((r.length : Int) > 40))) h1 = _
          rw [Res.opt_some]; congr 1
          by_cases q2 : 40 < r.length
          · rw [decide_eq_true (show (r.length : Int) > 40 by omega), decide_eq_true (.inr q2)]
          · rw [decide_eq_false (show ¬ (r.length : Int) > 40 by omega), decide_eq_false (by omega)]
      simp only [ve]
      by_cases q : 9 < (r :: rs).length ∨ 40 < r.length
      · rw [decide_eq_true q] at t3
        rw [if_pos q]
        exact w_then (sC 2) t3 rfl ⟨p1, rfl⟩
      · rw [decide_eq_false q] at t3
        rw [if_neg q]
        refine w_skip t3 ?_
        refine w_for (s := (vs, fun h' => decide (h'[a]? = some (.list vs)))) (h' := h1) (by
          rw [I_iobj]
          show Res.opt (srcOf h1 (.ref a)) h1 = _
          rw [srcOf_list g1]; rfl) ?_
        have RA := rows_at R1
        have rm : ∀ v ∈ vs, ∃ j ks, v = .ref j ∧ h1[j]? = some (.list (List.map iN ks)) := fun v hv => by
          have : ∀ {rs : List (List Nat)} {vs : List Val}, RL rowR rs vs h1 → v ∈ vs → ∃ j ks, v = .ref j ∧ h1[j]? = some (.list (List.map iN ks)) := fun {rs} => by
            induction rs with
            | nil => intro vs q hv; rw [show vs = [] from q] at hv; cases hv
            | cons r rs ih =>
              rintro vs ⟨u, ws, e, ⟨j, e1, g⟩, q⟩ hv
              rw [e] at hv
              rcases List.mem_cons.mp hv with rfl | hv
              · exact ⟨j, r, e1, g⟩
              · exact ih q hv
          exact this R1 hv
        have key := forLoop_ret (h := h1) (f := forStep (.loc 1) (exec (callN F W n) W (.cons (.ifs (.cmp .NotEq (.bi .len (.cons (.loc 1) .nil)) (.bi .len (.cons (.sub (.loc 0) (.const (.int 0))) .nil))) (.cons (.ret (.const (.str [85, 110, 101, 118, 101, 110]))) .nil) .nil) (.cons (.fors (.loc 2) (.iobj (.loc 1)) (.cons (.ifs (.cmp .Gt (.loc 2) (.const (.int 1000000000000))) (.cons (.ret (.const (.str [66, 97, 100, 66, 105, 100]))) .nil) .nil) .nil)) .nil))))
          (ck := fun h' => decide (h'[a]? = some (.list vs))) (fun ρ => ∃ o o', ρ = [some (.ref a), o, o']) (fun v => match v with | .ref j => (match h1[j]? with | some (.list r') => rowBadV r.length r' | _ => none) | _ => none) (by simp [g1]) vs [some (.ref a), none, none] (fun x hx ρ hρ => by
            obtain ⟨o, o', rfl⟩ := hρ
            obtain ⟨j, ks, rfl, gj⟩ := rm x hx
            have d := due_one (W := W) (C := callN F W n) (h := h1) (a := j) (m := r.length) (r := ks.map iN) (o1 := none) (o2 := o') ⟨ks, rfl⟩ gj (b := a) (e0 _ _)
            simp only [gj]
            revert d
            cases rowBadV r.length (ks.map iN) with
            | some v => exact fun d => d
            | none => exact fun ⟨o2', d⟩ => ⟨_, d, _, _, rfl⟩) ⟨_, _, rfl⟩
        have fe : vs.findSome? (fun v => match v with | .ref j => (match h1[j]? with | some (.list r') => rowBadV r.length r' | _ => none) | _ => none) = ((rowsV (r :: rs)).findSome? (rowBad r.length)).map sC := by
          have e1 : vs.findSome? (fun v => match v with | .ref j => (match h1[j]? with | some (.list r') => rowBadV r.length r' | _ => none) | _ => none) = (rowsV (r :: rs)).findSome? (rowBadV r.length) := RowsAt.findV (fun j r' hj => by simp only [hj]) RA
          rw [e1]
          refine findSome_map _ fun x hx => ?_
          obtain ⟨ks, _, rfl⟩ := List.mem_map.mp hx
          exact rowBad_eq _ ks
        rw [fe] at key
        revert key
        cases (rowsV (r :: rs)).findSome? (rowBad r.length) with
        | some c =>
          rintro ⟨ρ', e⟩
          rw [e]
          exact ⟨p1, rfl⟩
        | none =>
          rintro ⟨ρ', e, o, o', rfl⟩
          rw [e]
          rw [Wp_ok, thenX_next]
          exact w_ret (.ref a) (h' := h1) rfl ⟨p1, rfl⟩
end
end Mine


-- part L07f
set_option maxRecDepth 4000
set_option linter.unusedVariables false
set_option linter.unusedSimpArgs false
namespace Mine

theorem bids_in {c : Nat} : ∀ {vs : List Val}, vs.findSome? bidBad = some c → c = 4
  | [], e => by cases e
  | v :: vs, e => by
    rw [List.findSome?_cons] at e
    unfold bidBad at e
    by_cases q : okBid v = true
    · rw [if_pos q] at e; exact bids_in e
    · rw [if_neg q] at e; cases e; rfl
theorem rows_in {c m : Nat} : ∀ {rs : List (List Val)}, rs.findSome? (rowBad m) = some c → c = 3 ∨ c = 4
  | [], e => by cases e
  | r :: rs, e => by
    rw [List.findSome?_cons] at e
    unfold rowBad at e
    by_cases q : r.length = m
    · rw [if_pos q] at e
      cases hq : r.findSome? bidBad with
      | none => rw [hq] at e; exact rows_in e
      | some d => rw [hq] at e; cases e; exact .inr (bids_in hq)
    · rw [if_neg q] at e; cases e; exact .inl rfl
theorem verdict_in {rs : List (List Val)} {c : Nat} (h : verdict rs = some c) : c = 1 ∨ c = 2 ∨ c = 3 ∨ c = 4 := by
  cases rs with
  | nil => cases h; exact .inl rfl
  | cons r rs =>
    have h : (if 9 < (r :: rs).length ∨ 40 < r.length then some 2 else (r :: rs).findSome? (rowBad r.length)) = some c := h
    split at h
    · cases h; exact .inr (.inl rfl)
    · exact .inr (.inr (rows_in h))
theorem readL_in {ls : List (List Nat)} {lst : List Nat} {c : Nat} (h : readL ls lst = .error c) : c = 1 ∨ c = 2 ∨ c = 3 ∨ c = 4 ∨ c = 8 := by
  unfold readL at h
  split at h
  · cases hq : optAll rowP ls with
    | none => rw [hq] at h; cases h; simp
    | some rs =>
      rw [hq] at h
      simp only at h
      cases hv : verdict (rowsV rs) with
      | none => rw [hv] at h; cases h
      | some d =>
        rw [hv] at h; cases h
        rcases verdict_in hv with q | q | q | q <;> simp [q]
  · cases h; simp

section
variable {F : Nat → Option MFun} {W n : Nat} {h : MH}

noncomputable def isErr (r : Except Nat (List (List Nat))) : Bool := match r with | .ok _ => false | .error _ => true
theorem sub_E {C : Cf} {ρ : Rho} {o i : MExpr} {v w u : Val} (ho : (sem C o).E ρ h = .ok v h) (hi : (sem C i).E ρ h = .ok w h) (hs : subV h v w = some u) : (sem C (.sub o i)).E ρ h = .ok u h := by
  rw [E_sub, ho, Res.bind_ok, hi, Res.bind_ok, hs]; rfl
structure FR (F : Nat → Option MFun) : Prop where
  h1 : F 1 = some f_is_number
  h3 : F 3 = some f_need_bids
  h4 : F 4 = some f_need_row
  h5 : F 5 = some f_look
  h19 : F 19 = some f_number_of
  h20 : F 20 = some f_row_of
  h21 : F 21 = some f_read

theorem told_x (R : FR F) (h31 : F 31 = some f07_law_told) {t : List Nat} {ls : List (List Nat)} {lst : List Nat} (asc : Asc t) (hl : t.length ≤ 900000) (hs : splitBy 10 t = ls ++ [lst]) :
    Wp (callN F W (n + 6) 31 [.str t] h) fun v h' => h <+: h' ∧ Out (readL ls lst) v h' := by
  rw [callN_def h31 rfl, Wp_bind]
  show Wp (exec (callN F W (n + 5)) W f07_law_told.body [some (.str t)] h) _
  unfold f07_law_told
  have rx := read_x (W := W) (n := n) (h := h) R.h1 R.h3 R.h4 R.h5 R.h19 R.h20 R.h21 asc hl hs
  have e : exec (callN F W (n + 5)) W (.cons (.ret (.call 21 (.cons (.loc 0) .nil))) .nil) [some (.str t)] h = (callN F W (n + 5) 21 [.str t] h).bind fun v h => .ok (.ret v, [some (.str t)]) h := by
    rw [X_cons', X_ret, E_call]
    show ((callN F W (n + 5) 21 [.str t] h).bind _).bind _ = _
    rw [Res.bind_assoc]; rfl
  rw [X_cons', X_tryx, e]
  cases hr : callN F W (n + 5) 21 [.str t] h with
  | stuck => rw [hr] at rx; exact rx
  | ok v h' =>
    rw [hr] at rx
    obtain ⟨p, rs, a, vs, e1, e2, e3, e4⟩ := rx
    show h <+: h' ∧ Out (readL ls lst) v h'
    rw [e1]
    exact ⟨p, a, vs, e2, e3, e4⟩
  | exc c h' =>
    rw [hr] at rx
    obtain ⟨p, e1⟩ := rx
    show Wp ((tryV _ [some (.str t)] (.exc c h')).bind _) _
    rw [e1]
    rcases readL_in e1 with rfl | rfl | rfl | rfl | rfl <;> exact ⟨p, rfl⟩

theorem bybase_x (R : FR F) (h43 : F 43 = some f_law_by_base) {t : List Nat} {ls : List (List Nat)} {lst : List Nat} (asc : Asc t) (hl : t.length ≤ 900000) (hs : splitBy 10 t = ls ++ [lst]) :
    Wp (callN F W (n + 6) 43 [.str t] h) fun v h' => h <+: h' ∧ v = .bool (isErr (readL ls lst)) := by
  rw [callN_def h43 rfl, Wp_bind]
  show Wp (exec (callN F W (n + 5)) W f_law_by_base.body [some (.str t)] h) _
  unfold f_law_by_base
  have rx := read_x (W := W) (n := n) (h := h) R.h1 R.h3 R.h4 R.h5 R.h19 R.h20 R.h21 asc hl hs
  have e : exec (callN F W (n + 5)) W (.cons (.expr (.call 21 (.cons (.loc 0) .nil))) .nil) [some (.str t)] h = (callN F W (n + 5) 21 [.str t] h).bind fun v h => .ok (.next, [some (.str t)]) h := by
    rw [X_cons', X_expr, E_call]
    show ((callN F W (n + 5) 21 [.str t] h).bind _).bind _ = _
    rw [Res.bind_assoc]; rfl
  rw [X_cons', X_tryx, e]
  cases hr : callN F W (n + 5) 21 [.str t] h with
  | stuck => rw [hr] at rx; exact rx
  | ok v h' =>
    rw [hr] at rx
    obtain ⟨p, rs, a, vs, e1, e2, e3, e4⟩ := rx
    rw [e1]
    exact ⟨p, rfl⟩
  | exc c h' =>
    rw [hr] at rx
    obtain ⟨p, e1⟩ := rx
    rw [e1]
    show Wp ((tryV [(0, true, .bool true)] [some (.str t)] (.exc c h')).bind _) _
    have : caught c [(0, true, Val.bool true)] = some (.bool true) := if_pos (.inr rfl)
    unfold tryV
    simp only [this]
    exact ⟨p, rfl⟩

theorem kinds_x (h22 : F 22 = some f_law_whole) (h52 : F 52 = some f_law_kinds) {r : Except Nat (List (List Nat))} {v : Val} (o : Out r v h) : callN F W (n + 2) 52 [v] h = .ok (.bool true) h := by
  rw [callN_def h52 rfl]
  show (exec (callN F W (n + 1)) W f_law_kinds.body [some v, none, none] h).bind retOf = _
  unfold f_law_kinds
  cases r with
  | error c =>
    rw [show v = .str (nameC c) from o]
    rw [st_if (x := true) (h' := h) rfl]
    rfl
  | ok rs =>
    obtain ⟨a, vs, rfl, g, R⟩ := o
    have i1 : isInstV h .list (.ref a) = some true := by show Option.map _ (seqOf h a) = _; rw [seqOf_list g]; rfl
    rw [x_skip (h' := h) (by
      rw [T_not, T_isinst, E_isinst, E_loc, locV_zero, Res.bind_ok, i1]; rfl)]
    have rm : ∀ v ∈ vs, ∃ j ks, v = .ref j ∧ h[j]? = some (.list (List.map iN ks)) := fun v hv => by
      have : ∀ {rs : List (List Nat)} {vs : List Val}, RL rowR rs vs h → v ∈ vs → ∃ j ks, v = .ref j ∧ h[j]? = some (.list (List.map iN ks)) := fun {rs} => by
        induction rs with
        | nil => intro vs q hv; rw [show vs = [] from q] at hv; cases hv
        | cons r rs ih =>
          rintro vs ⟨u, ws, e, ⟨j, e1, g⟩, q⟩ hv
          rw [e] at hv
          rcases List.mem_cons.mp hv with rfl | hv
          · exact ⟨j, r, e1, g⟩
          · exact ih q hv
      exact this R hv
    obtain ⟨ρ', e, o1, o2, rfl⟩ := forLoop_pure (f := forStep (.loc 1) (exec (callN F W (n + 1)) W (.cons (.ifs (.un .Not (.isinst .list (.loc 1))) (.cons (.ret (.const (.bool false))) .nil) .nil) (.cons (.fors (.loc 2) (.iobj (.loc 1)) (.cons (.ifs (.un .Not (.call 22 (.cons (.loc 2) .nil))) (.cons (.ret (.const (.bool false))) .nil) .nil) .nil)) .nil))))
      (ck := fun h' => decide (h'[a]? = some (.list vs))) (h := h) (fun ρ => ∃ o1 o2, ρ = [some (.ref a), o1, o2]) (by simp [g]) vs [some (.ref a), none, none] (fun x hx ρ hρ => by
        obtain ⟨o1, o2, rfl⟩ := hρ
        obtain ⟨j, ks, rfl, gj⟩ := rm x hx
        have i2 : isInstV h .list (.ref j) = some true := by show Option.map _ (seqOf h j) = _; rw [seqOf_list gj]; rfl
        obtain ⟨ρ', e, o2', rfl⟩ := forLoop_pure (f := forStep (.loc 2) (exec (callN F W (n + 1)) W (.cons (.ifs (.un .Not (.call 22 (.cons (.loc 2) .nil))) (.cons (.ret (.const (.bool false))) .nil) .nil) .nil)))
          (ck := fun h' => decide (h'[j]? = some (.list (ks.map iN)))) (h := h) (fun ρ => ∃ o2, ρ = [some (.ref a), some (.ref j), o2]) (by simp [gj]) (ks.map iN) [some (.ref a), some (.ref j), o2] (fun y hy ρ hρ => by
            obtain ⟨o2, rfl⟩ := hρ
            obtain ⟨k, _, rfl⟩ := List.mem_map.mp hy
            refine ⟨[some (.ref a), some (.ref j), some (iN k)], ?_, _, rfl⟩
            show exec (callN F W (n + 1)) W (.cons _ .nil) [some (.ref a), some (.ref j), some (iN k)] h = _
            rw [x_skip (h' := h) (by
              rw [T_not, T_call, E_call]
              show (((callN F W (n + 1) 22 [.int k] h).bind _).bind _) = _
              rw [whole_int h22]; rfl)]
            rfl) ⟨_, rfl⟩
        refine ⟨[some (.ref a), some (.ref j), o2'], ?_, _, _, rfl⟩
        show exec (callN F W (n + 1)) W (.cons _ _) [some (.ref a), some (.ref j), o2] h = _
        rw [x_skip (h' := h) (by
          rw [T_not, T_isinst, E_isinst]
          show (((Res.opt (isInstV h .list (.ref j)) h).bind _).bind _).bind _ = _
          rw [i2]; rfl), st_fors (s := (ks.map iN, fun h' => decide (h'[j]? = some (.list (ks.map iN))))) (h' := h) (by
            rw [I_iobj]
            show Res.opt (srcOf h (.ref j)) h = _
            rw [srcOf_list gj]; rfl), e]
        rfl) ⟨_, _, rfl⟩
    rw [st_fors (s := (vs, fun h' => decide (h'[a]? = some (.list vs)))) (h' := h) (by
      rw [I_iobj]
      show Res.opt (srcOf h (.ref a)) h = _
      rw [srcOf_list g]; rfl), e]
    rfl

theorem out_eq {r : Except Nat (List (List Nat))} {u v : Val} (o : Out r u h) (o' : Out r v h) : cmpV h .Eq u v = some true := by
  cases r with
  | error c =>
    rw [show u = .str (nameC c) from o, show v = .str (nameC c) from o']
    show some (nameC c == nameC c) = _
    simp
  | ok rs =>
    have rd : ∀ {u : Val}, Out (.ok rs) u h → Rd 0 h (tII (rs.map fun r => r.map fun k => ((k : Nat) : Int))) u := fun {u} o => by
      obtain ⟨a, vs, rfl, g, R⟩ := o
      refine Rd.mkList (Nat.zero_le _) g ?_
      have : ∀ {rs : List (List Nat)} {vs : List Val}, RL rowR rs vs h → RdL 0 h ((rs.map fun r => r.map fun k => ((k : Nat) : Int)).map tI) vs := fun {rs} => by
        induction rs with
        | nil => intro vs q; rw [show vs = [] from q]; exact .nil
        | cons r rs ih =>
          rintro vs ⟨u, ws, rfl, ⟨j, rfl, g⟩, q⟩
          refine .cons (Rd.mkInts (Nat.zero_le _) ?_) (ih q)
          rw [g, List.map_map]; rfl
      exact this R
    exact eq_same8 (by have := dep_tII (rs.map fun r => r.map fun k => ((k : Nat) : Int)); omega) (rd o) (rd o')
theorem out_str {r : Except Nat (List (List Nat))} {u : Val} (o : Out r u h) : isInstV h .str u = some (isErr r) := by
  cases r with
  | error c => rw [show u = .str (nameC c) from o]; rfl
  | ok rs =>
    obtain ⟨a, vs, rfl, g, R⟩ := o
    show Option.map _ (seqOf h a) = _
    rw [seqOf_list g]; rfl

noncomputable def GoodW (w : List Nat) : Prop := Asc w ∧ w.length ≤ 14
noncomputable def goodB (w : List Nat) : Bool := w.all (fun c => decide (c < 128)) && decide (w.length ≤ 14)
theorem goodB_ok {w : List Nat} (e : goodB w = true) : GoodW w := by
  unfold goodB at e
  rw [Bool.and_eq_true, List.all_eq_true] at e
  exact ⟨fun c hc => of_decide_eq_true (e.1 c hc), of_decide_eq_true e.2⟩
theorem menu {l : List (List Nat)} (hl : l.all goodB = true) {hh : MH} {a : Nat} (g : hh[a]? = some (.list (l.map .str))) {k : Int} (h0 : 0 ≤ k) (h1 : k < l.length) : ∃ w, subV hh (.ref a) (.int k) = some (.str w) ∧ GoodW w := by
  have hk : k.toNat < l.length := by omega
  refine ⟨l[k.toNat], sub_ref (seqOf_list g) h0 (by rw [List.getElem?_map, List.getElem?_eq_getElem hk]; rfl), goodB_ok (List.all_eq_true.mp hl _ (List.getElem_mem hk))⟩

noncomputable def wSome : List (List Nat) := [[48], [49], [55], [49, 48], [57, 57], [51, 48, 53], [49, 48, 48, 48, 48, 48, 48, 48, 48, 48, 48, 48, 48], [57, 57, 57, 57, 57, 57, 57, 57, 57, 57, 57, 57], [49, 48, 48, 48, 48, 48, 48, 48, 48, 48, 48, 48, 49], [57, 57, 57, 57, 57, 57, 57, 57, 57, 57, 57, 57, 57]]
noncomputable def wOdd : List (List Nat) := [[48, 48], [48, 49], [45, 49], [43, 49], [49, 46, 48], [49, 50, 51, 52, 53, 54, 55, 56, 57, 48, 49, 50, 51, 52], [], [97], [49, 95, 48], [48, 120, 49], [49, 101, 51], [49, 48, 48, 48, 48, 48, 48, 48, 48, 48, 48, 48, 48, 48], [79], [108], [45, 32, 49], [49, 44, 48], [9, 49], [48, 48, 48, 48, 48, 48, 48, 48, 48, 48, 48, 48, 48], [84, 114, 117, 101], [49, 32]]
theorem word_x (h48 : F 48 = some f_law_word) {x : Int} : Wp (callN F W (n + 1) 48 [.int x] h) fun v h' => h <+: h' ∧ ∃ w, v = .str w ∧ GoodW w := by
  rw [callN_def h48 rfl, Wp_bind]
  show Wp (exec (callN F W n) W f_law_word.body [some (.int x), none, none] h) _
  unfold f_law_word
  refine w_assign (.ref h.length) (h' := h ++ [.list (wSome.map .str)]) (by show newList (wSome.map .str) h = _; exact newList_ok (by decide)) ?_
  have g0 : (h ++ [MObj.list (wSome.map Val.str)])[h.length]? = some (.list (wSome.map .str)) := by simp
  have p0 : h <+: h ++ [MObj.list (wSome.map Val.str)] := pre_app _ _
  generalize h ++ [MObj.list (wSome.map Val.str)] = h1 at g0 p0 ⊢
  refine w_assign (.ref h1.length) (h' := h1 ++ [.list (wOdd.map .str)]) (by show newList (wOdd.map .str) h1 = _; exact newList_ok (by decide)) ?_
  have g1 : (h1 ++ [MObj.list (wOdd.map Val.str)])[h1.length]? = some (.list (wOdd.map .str)) := by simp
  have p1 : h <+: h1 ++ [MObj.list (wOdd.map Val.str)] := p0.trans (pre_app _ _)
  have g0' := get_pre (pre_app h1 [MObj.list (wOdd.map Val.str)]) g0
  generalize h1 ++ [MObj.list (wOdd.map Val.str)] = h2 at g1 p1 g0' ⊢
  show Wp (exec (callN F W n) W _ [some (.int x), some (.ref h.length), some (.ref h1.length)] h2) _
  have t1 : (sem (callN F W n) (.cmp .Gt (.bin .Mod (.loc 0) (.const (.int 12))) (.const (.int 0)))).T [some (.int x), some (.ref h.length), some (.ref h1.length)] h2 = .ok (decide (x % 12 > 0)) h2 := by
    rw [T_cmp, E_bin]
    show ((binV h2 .Mod (.int x) (.int 12)).bind _) = _
    rw [bin_mod, if_pos (by omega)]; rfl
  have fd : ∀ (k m : Int), 0 < k → k < 1000 → 0 < m → (sem (callN F W n) (.bin .Mod (.bin .FloorDiv (.loc 0) (.const (.int k))) (.const (.int m)))).E [some (.int x), some (.ref h.length), some (.ref h1.length)] h2 = .ok (.int (x / k % m)) h2 := fun k m a1 a3 a4 => by
    simp only [E_bin, E_loc, locV_zero, E_const, Res.bind_ok, bin_fd, bin_mod]
    rw [if_pos ⟨a1, by omega⟩, Res.bind_ok, bin_mod, if_pos a4]
  by_cases q : x % 12 > 0
  · rw [decide_eq_true q] at t1
    obtain ⟨w, e, gw⟩ := menu (l := wSome) (by decide) g0' (k := x / 12 % 8) (by omega) (by show _ < ((10 : Nat) : Int); omega)
    refine w_then (.str w) t1 (h'' := h2) (sub_E (v := .ref h.length) rfl (fd 12 8 (by omega) (by omega) (by omega)) e) ⟨p1, w, rfl, gw⟩
  · rw [decide_eq_false q] at t1
    refine w_skip t1 ?_
    have t2 : (sem (callN F W n) (.cmp .Eq (.bin .Mod (.bin .FloorDiv (.loc 0) (.const (.int 12))) (.const (.int 6))) (.const (.int 0)))).T [some (.int x), some (.ref h.length), some (.ref h1.length)] h2 = .ok (x / 12 % 6 == 0) h2 := by
      rw [T_cmp, fd 12 6 (by omega) (by omega) (by omega)]; rfl
    cases hb : (x / 12 % 6 == 0) with
    | true =>
      rw [hb] at t2
      obtain ⟨w, e, gw⟩ := menu (l := wSome) (by decide) g0' (k := 8 + x / 72 % 2) (by omega) (by show _ < ((10 : Nat) : Int); omega)
      refine w_then (.str w) t2 (h'' := h2) (sub_E (v := .ref h.length) (w := .int (8 + x / 72 % 2)) rfl (by rw [E_bin, E_const, Res.bind_ok, fd 72 2 (by omega) (by omega) (by omega)]; rfl) e) ⟨p1, w, rfl, gw⟩
    | false =>
      rw [hb] at t2
      refine w_skip t2 ?_
      obtain ⟨w, e, gw⟩ := menu (l := wOdd) (by decide) g1 (k := x / 72 % 20) (by omega) (by show _ < ((20 : Nat) : Int); omega)
      refine w_ret (.str w) (h' := h2) (sub_E (v := .ref h1.length) rfl (fd 72 20 (by omega) (by omega) (by omega)) e) ⟨p1, w, rfl, gw⟩

noncomputable def signs : List Nat := [32, 33, 34, 35, 36, 38, 39, 40, 41, 42, 43, 44, 45, 46, 47, 48, 49, 50, 51, 52, 53, 54, 55, 56, 57, 58, 59, 60, 61, 62, 63, 64, 65, 66, 67, 68, 69, 70, 71, 72, 73, 74, 75, 76, 77, 78, 79, 80, 81, 82, 83, 84, 85, 86, 87, 88, 89, 90, 91, 92, 93, 94, 95, 96, 97, 98, 99, 100, 101, 102, 103, 104, 105, 106, 107, 108, 109, 110, 111, 112, 113, 114, 115, 116, 117, 118, 119, 120, 121, 122, 123, 124, 125, 126, 9, 10]
theorem sign_x (h49 : F 49 = some f_law_sign) {x : Int} : ∃ c, callN F W (n + 1) 49 [.int x] h = .ok (.str [c]) h ∧ c < 128 := by
  have hk : (x % 96).toNat < signs.length := by show _ < 96; omega
  have al : signs.all (fun c => decide (c < 128)) = true := by decide
  refine ⟨signs[(x % 96).toNat], ?_, of_decide_eq_true (List.all_eq_true.mp al _ (List.getElem_mem hk))⟩
  rw [callN_def h49 rfl]
  show (exec (callN F W n) W f_law_sign.body [some (.int x), none] h).bind retOf = _
  unfold f_law_sign
  rw [st_assign (v := .str (signs.take 64)) (h' := h) rfl]
  show (exec (callN F W n) W (.cons (.assign 1 (.bin .Add (.loc 1) (.const (.str (signs.drop 64))))) _) [some (.int x), some (.str (signs.take 64))] h).bind retOf = _
  rw [st_assign (v := .str signs) (h' := h) (by
    show (if (signs.take 64).length + (signs.drop 64).length ≤ lim then Res.ok (Val.str (signs.take 64 ++ signs.drop 64)) h else .stuck) = _
    rw [if_pos (by decide)]; rfl)]
  show (exec (callN F W n) W _ [some (.int x), some (.str signs)] h).bind retOf = _
  rw [st_ret (v := .str [signs[(x % 96).toNat]]) (h' := h) (by
    have e1 : (sem (callN F W n) (.bin .Mod (.loc 0) (.const (.int 96)))).E [some (.int x), some (.str signs)] h = .ok (.int (x % 96)) h := by
      rw [E_bin]
      show binV h .Mod (.int x) (.int 96) = _
      rw [bin_mod, if_pos (by omega)]
    refine sub_E (v := .str signs) rfl e1 ?_
    have : subV h (.str signs) (.int (x % 96)) = some (.str [signs[(x % 96).toNat]]) := by
      have hl : signs.length = 96 := rfl
      show (idxOf (x % 96) signs.length).bind _ = _
      rw [hl]
      have : idxOf (x % 96) 96 = some (x % 96).toNat := by unfold idxOf; rw [if_pos (by omega), if_pos (by omega)]
      rw [this, Option.bind_some, List.getElem?_eq_getElem hk]; rfl
    exact this)]
  rfl
end
end Mine


-- part L07r
set_option maxRecDepth 4000
set_option linter.unusedVariables false
set_option linter.unusedSimpArgs false
namespace Mine

theorem strs_map : ∀ ws : List (List Nat), strsOf (ws.map .str) = some ws
  | [] => rfl
  | w :: ws => by rw [List.map_cons, strsOf, strs_map ws]; rfl
theorem join_tl {ws : List (List Nat)} : (∀ w ∈ ws, GoodW w) → Asc (joinTl [32] ws) ∧ (joinTl [32] ws).length ≤ 15 * ws.length := by
  induction ws with
  | nil => exact fun _ => ⟨fun c hc => (nomatch hc), Nat.le_refl _⟩
  | cons w ws ih =>
    intro hw
    obtain ⟨i1, i2⟩ := ih fun x hx => hw x (.tail _ hx)
    obtain ⟨w1, w2⟩ := hw w (.head _)
    have e : joinTl [32] (w :: ws) = 32 :: (w ++ joinTl [32] ws) := rfl
    rw [e]
    refine ⟨fun c hc => ?_, by simp only [List.length_cons, List.length_append]; omega⟩
    rcases List.mem_cons.mp hc with rfl | hc
    · omega
    · rcases List.mem_append.mp hc with hc | hc
      · exact w1 c hc
      · exact i1 c hc
theorem join_good {ws : List (List Nat)} (hw : ∀ w ∈ ws, GoodW w) : Asc (joinBy [32] ws) ∧ (joinBy [32] ws).length ≤ 15 * ws.length := by
  cases ws with
  | nil => exact ⟨fun c hc => (nomatch hc), Nat.le_refl _⟩
  | cons w ws =>
    obtain ⟨i1, i2⟩ := join_tl fun x hx => hw x (.tail _ hx)
    obtain ⟨w1, w2⟩ := hw w (.head _)
    have e : joinBy [32] (w :: ws) = w ++ joinTl [32] ws := rfl
    rw [e]
    refine ⟨fun c hc => ?_, by simp only [List.length_cons, List.length_append]; omega⟩
    rcases List.mem_append.mp hc with hc | hc
    · exact w1 c hc
    · exact i1 c hc
theorem Asc.app {a b : List Nat} (x : Asc a) (y : Asc b) : Asc (a ++ b) := fun c hc => by
  rcases List.mem_append.mp hc with hc | hc
  · exact x c hc
  · exact y c hc
theorem Asc.sub {a b : List Nat} (x : Asc a) (h : ∀ c ∈ b, c ∈ a) : Asc b := fun c hc => x c (h c hc)

section
variable {F : Nat → Option MFun} {W n : Nat}

theorem comp_words {C : Cf} (hC : ∀ x h, Wp (C 48 [.int x] h) fun v h' => h <+: h' ∧ ∃ w, v = .str w ∧ GoodW w) {ck : MH → Bool} {h0 : MH} (hck : ∀ h, h0 <+: h → ck h = true) {ρ : Rho} (hi : 10 < ρ.length) : ∀ (xs : List Int) (h : MH), h0 <+: h →
    Wp (compLoop (compStep (.loc 10) (sem C (.const (.bool true))).T (sem C (.call 48 (.cons (.loc 10) .nil))).E ρ) ck (xs.map .int) h) fun vs h' => h <+: h' ∧ ∃ ws : List (List Nat), vs = ws.map .str ∧ ws.length = xs.length ∧ ∀ w ∈ ws, GoodW w
  | [], h, _ => ⟨List.prefix_refl _, [], rfl, rfl, fun _ q => nomatch q⟩
  | x :: xs, h, p => by
    rw [List.map_cons, compLoop, Wp_bind]
    have e : locV 10 (ρ.set 10 (some (.int x))) h = .ok (.int x) h := by unfold locV; rw [List.getElem?_set_self hi]
    have st : compStep (.loc 10) (sem C (.const (.bool true))).T (sem C (.call 48 (.cons (.loc 10) .nil))).E ρ (.int x) h = (C 48 [.int x] h).bind fun v h => .ok (some v) h := by
      simp only [compStep, bindTgt, T_const, truthy_bool, Res.opt_some, Res.bind_ok, if_true, E_call, Es_cons, Es_nil, E_loc, e]
    rw [st, Wp_bind]
    refine (hC x h).mono fun v h1 q => ?_
    obtain ⟨q1, w, rfl, q2⟩ := q
    rw [Wp_ok, if_pos (hck _ (p.trans q1)), Wp_bind]
    refine (comp_words hC hck hi xs h1 (p.trans q1)).mono fun vs h2 z => ?_
    obtain ⟨z1, ws, rfl, z2, z3⟩ := z
    exact ⟨q1.trans z1, w :: ws, rfl, by simp [z2], fun x hx => by
      rcases List.mem_cons.mp hx with rfl | hx
      · exact q2
      · exact z3 x hx⟩

noncomputable def lawB : MStmt := .cons (.assign 4 (.call 24 (.cons (.call 23 (.cons (.loc 0) (.cons (.bin .Add (.const (.int 4)) (.loc 3)) .nil))) (.cons (.bin .Add (.loc 1) (.const (.int 2))) .nil))))
  (.cons (.assign 5 (.bin .Sub (.bin .Add (.loc 1) (.bi .int (.cons (.cmp .Eq (.bin .Mod (.sub (.loc 4) (.const (.int 0))) (.const (.int 11))) (.const (.int 1))) .nil))) (.bi .int (.cons (.and (.cmp .Eq (.bin .Mod (.sub (.loc 4) (.const (.int 0))) (.const (.int 11))) (.const (.int 2))) (.cmp .Gt (.loc 1) (.const (.int 0)))) .nil))))
  (.cons (.assign 6 (.comp (.call 48 (.cons (.loc 10) .nil)) (.loc 10) (.iobj (.slice (.loc 4) (.cons (.const (.int 1)) .nil) (.cons (.bin .Add (.loc 5) (.const (.int 1))) .nil))) (.const (.bool true))))
  (.cons (.assign 2 (.bin .Add (.bin .Add (.loc 2) (.meth .join (.const (.str [32])) (.cons (.loc 6) .nil))) (.const (.str [10]))))
  .nil)))
/-- what a turn leaves -/
noncomputable def TI (g : Nat) (bound : Nat) (ρ : Rho) : Prop := ∃ t o3 o4 o5 o6, ρ = [some (.ref 0), some (.int (g : Nat)), some (.str t), o3, o4, o5, o6, none, none, none, none] ∧ Asc t ∧ t.length ≤ bound

theorem law_turn {C : Cf} (xs : List Int) (h23 : ∀ k h, seqOf h 0 = some (true, xs.map .int) → 0 ≤ k → C 23 [.ref 0, .int k] h = .ok (.int (cellI xs k)) h)
    (h24 : ∀ (c : Int) (m : Nat) (h : MH), m ≤ 1000000 → C 24 [.int c, .int m] h = .ok (.ref h.length) (h ++ [.list ((drawsI m c).map .int)]))
    (hC : ∀ x h, Wp (C 48 [.int x] h) fun v h' => h <+: h' ∧ ∃ w, v = .str w ∧ GoodW w) {g bound k : Nat} (hg : g ≤ 42) (hb : bound ≤ 100000) {ρ : Rho} {h : MH} (sc : seqOf h 0 = some (true, xs.map .int)) (I : TI g bound ρ) :
    Wp (forStep (.loc 3) (exec C W lawB) (.int (k : Nat)) ρ h) fun p h' => p.1 = .next ∧ h <+: h' ∧ TI g (bound + 1000) p.2 := by
  obtain ⟨t, o3, o4, o5, o6, rfl, at', lt⟩ := I
  show Wp (exec C W lawB [some (.ref 0), some (.int (g : Nat)), some (.str t), some (.int (k : Nat)), o4, o5, o6, none, none, none, none] h) _
  unfold lawB
  have c1 := h23 (4 + (k : Int)) h sc (by omega)
  refine w_assign (.ref h.length) (h' := h ++ [.list ((drawsI (g + 2) (cellI xs (4 + (k : Int)))).map .int)]) (by
    rw [E_call]
    show ((((C 23 [.ref 0, .int (4 + (k : Int))] h)).bind _).bind _) = _
    rw [c1]
    show C 24 [.int (cellI xs (4 + (k : Int))), .int ((g : Int) + 2)] h = _
    have := h24 (cellI xs (4 + (k : Int))) (g + 2) h (by omega)
    rw [show ((g + 2 : Nat) : Int) = (g : Int) + 2 by omega] at this
    exact this) ?_
  have ld : (drawsI (g + 2) (cellI xs (4 + (k : Int)))).length = g + 2 := drawsI_len _ _
  generalize drawsI (g + 2) (cellI xs (4 + (k : Int))) = ds at ld ⊢
  have g1 : (h ++ [MObj.list (ds.map .int)])[h.length]? = some (.list (ds.map .int)) := by simp
  have p1 : h <+: h ++ [MObj.list (ds.map .int)] := pre_app _ _
  generalize h ++ [MObj.list (ds.map .int)] = h1 at g1 p1 ⊢
  show Wp (exec C W (.cons _ _) [some (.ref 0), some (.int (g : Nat)), some (.str t), some (.int (k : Nat)), some (.ref h.length), o5, o6, none, none, none, none] h1) _
  have s0 : subV h1 (.ref h.length) (.int 0) = some (.int (ds.getD 0 0)) := sub_ref (seqOf_list g1) (by omega) (by simpa using getD_map (xs := ds) (k := 0) (by omega))
  have em : (sem C (.bin .Mod (.sub (.loc 4) (.const (.int 0))) (.const (.int 11)))).E [some (.ref 0), some (.int (g : Nat)), some (.str t), some (.int (k : Nat)), some (.ref h.length), o5, o6, none, none, none, none] h1 = .ok (.int (ds.getD 0 0 % 11)) h1 := by
    rw [E_bin, sub_E (v := .ref h.length) (w := .int 0) rfl rfl s0, Res.bind_ok]
    show binV h1 .Mod (.int (ds.getD 0 0)) (.int 11) = _
    rw [bin_mod, if_pos (by omega)]
  have e5 : ∃ m : Int, -1 ≤ m ∧ m ≤ 43 ∧ (sem C (.bin .Sub (.bin .Add (.loc 1) (.bi .int (.cons (.cmp .Eq (.bin .Mod (.sub (.loc 4) (.const (.int 0))) (.const (.int 11))) (.const (.int 1))) .nil))) (.bi .int (.cons (.and (.cmp .Eq (.bin .Mod (.sub (.loc 4) (.const (.int 0))) (.const (.int 11))) (.const (.int 2))) (.cmp .Gt (.loc 1) (.const (.int 0)))) .nil)))).E [some (.ref 0), some (.int (g : Nat)), some (.str t), some (.int (k : Nat)), some (.ref h.length), o5, o6, none, none, none, none] h1 = .ok (.int m) h1 := by
    have ea : (sem C (.bi .int (.cons (.cmp .Eq (.bin .Mod (.sub (.loc 4) (.const (.int 0))) (.const (.int 11))) (.const (.int 1))) .nil))).E [some (.ref 0), some (.int (g : Nat)), some (.str t), some (.int (k : Nat)), some (.ref h.length), o5, o6, none, none, none, none] h1 = .ok (.int (if (ds.getD 0 0 % 11 == 1) = true then 1 else 0)) h1 := by
      rw [E_bi, Es_cons, E_cmp, em]; rfl
    have eb : ∃ b : Bool, (sem C (.bi .int (.cons (.and (.cmp .Eq (.bin .Mod (.sub (.loc 4) (.const (.int 0))) (.const (.int 11))) (.const (.int 2))) (.cmp .Gt (.loc 1) (.const (.int 0)))) .nil))).E [some (.ref 0), some (.int (g : Nat)), some (.str t), some (.int (k : Nat)), some (.ref h.length), o5, o6, none, none, none, none] h1 = .ok (.int (if b = true then 1 else 0)) h1 := by
      have ec : (sem C (.cmp .Eq (.bin .Mod (.sub (.loc 4) (.const (.int 0))) (.const (.int 11))) (.const (.int 2)))).E [some (.ref 0), some (.int (g : Nat)), some (.str t), some (.int (k : Nat)), some (.ref h.length), o5, o6, none, none, none, none] h1 = .ok (.bool (ds.getD 0 0 % 11 == 2)) h1 := by rw [E_cmp, em]; rfl
      cases hq : (ds.getD 0 0 % 11 == 2) with
      | true =>
        refine ⟨decide ((g : Int) > 0), ?_⟩
        rw [E_bi, Es_cons, E_and, ec, hq]; rfl
      | false =>
        refine ⟨false, ?_⟩
        rw [E_bi, Es_cons, E_and, ec, hq]; rfl
    obtain ⟨b, eb⟩ := eb
    refine ⟨(g : Int) + (if (ds.getD 0 0 % 11 == 1) = true then 1 else 0) - (if b = true then 1 else 0), ?_, ?_, ?_⟩
    · split <;> split <;> omega
    · split <;> split <;> omega
    · rw [E_bin, E_bin, E_loc]
      show (((sem C (.bi .int (.cons (.cmp .Eq (.bin .Mod (.sub (.loc 4) (.const (.int 0))) (.const (.int 11))) (.const (.int 1))) .nil))).E _ h1).bind _).bind _ = _
      rw [ea, Res.bind_ok]
      show ((sem C (.bi .int (.cons (.and (.cmp .Eq (.bin .Mod (.sub (.loc 4) (.const (.int 0))) (.const (.int 11))) (.const (.int 2))) (.cmp .Gt (.loc 1) (.const (.int 0)))) .nil))).E _ h1).bind _ = _
      rw [eb]; rfl
  obtain ⟨m, m1, m2, e5⟩ := e5
  refine w_assign (.int m) e5 ?_
  show Wp (exec C W (.cons _ _) [some (.ref 0), some (.int (g : Nat)), some (.str t), some (.int (k : Nat)), some (.ref h.length), some (.int m), o6, none, none, none, none] h1) _
  -- the words
  have esl : ∃ ys : List Int, ys.length ≤ 44 ∧ (sem C (.slice (.loc 4) (.cons (.const (.int 1)) .nil) (.cons (.bin .Add (.loc 5) (.const (.int 1))) .nil))).E [some (.ref 0), some (.int (g : Nat)), some (.str t), some (.int (k : Nat)), some (.ref h.length), some (.int m), o6, none, none, none, none] h1 = .ok (.ref h1.length) (h1 ++ [.list (ys.map .int)]) := by
    have c2 : cutAt (.int (m + 1)) (ds.map Val.int).length (ds.map Val.int).length = some (min (m + 1).toNat (ds.map Val.int).length) := by
      unfold cutAt; simp only; rw [if_pos (by omega)]
    have c3 : cutAt (.int 1) 0 (ds.map Val.int).length = some (min (1 : Int).toNat (ds.map Val.int).length) := by
      unfold cutAt; simp only; rw [if_pos (by omega)]
    refine ⟨(ds.take (min (m + 1).toNat (ds.map Val.int).length)).drop (min (1 : Int).toNat (ds.map Val.int).length), by rw [List.length_drop, List.length_take]; omega, ?_⟩
    show sliceV h1 (.ref h.length) (.int 1) (.int (m + 1)) = _
    simp only [sliceV, g1]
    unfold sliceL
    rw [c2, c3]
    simp only
    rw [List.map_drop, List.map_take]
    exact newList_ok (by rw [List.length_drop, List.length_take, List.length_map]; omega)
  obtain ⟨ys, ly, esl⟩ := esl
  have g2 : (h1 ++ [MObj.list (ys.map .int)])[h1.length]? = some (.list (ys.map .int)) := by simp
  have key := comp_words hC (ck_list g2) (ρ := [some (.ref 0), some (.int (g : Nat)), some (.str t), some (.int (k : Nat)), some (.ref h.length), some (.int m), o6, none, none, none, none]) (by simp) ys _ (List.prefix_refl _)
  obtain ⟨vs, h2, ek, pk, ws, rfl, lw, gw⟩ := key.get
  refine w_assign (.ref h2.length) (h' := h2 ++ [.list (ws.map .str)]) (by
    rw [E_comp, I_iobj, esl, Res.bind_ok, srcOf_list g2, Res.opt_some, Res.bind_ok]
    show (compLoop _ _ (ys.map .int) _).bind newList = _
    rw [ek]
    exact newList_ok (by rw [List.length_map]; omega)) ?_
  have g3 : (h2 ++ [MObj.list (ws.map .str)])[h2.length]? = some (.list (ws.map .str)) := by simp
  have p3 : h <+: h2 ++ [MObj.list (ws.map .str)] := ((p1.trans (pre_app _ _)).trans pk).trans (pre_app _ _)
  generalize h2 ++ [MObj.list (ws.map .str)] = h3 at g3 p3 ⊢
  show Wp (exec C W (.cons _ _) [some (.ref 0), some (.int (g : Nat)), some (.str t), some (.int (k : Nat)), some (.ref h.length), some (.int m), some (.ref h2.length), none, none, none, none] h3) _
  obtain ⟨ja, jl⟩ := join_good gw
  have ej : (sem C (.meth .join (.const (.str [32])) (.cons (.loc 6) .nil))).E [some (.ref 0), some (.int (g : Nat)), some (.str t), some (.int (k : Nat)), some (.ref h.length), some (.int m), some (.ref h2.length), none, none, none, none] h3 = .ok (.str (joinBy [32] ws)) h3 := by
    rw [E_meth]
    show meJoin h3 (.str [32]) [.ref h2.length] = _
    unfold meJoin
    simp only [onS, arg1, onL, g3, strs_map]
    rw [if_pos (by show _ ≤ 1048576; omega)]
  refine w_assign (.str (t ++ joinBy [32] ws ++ [10])) (h' := h3) (by
    rw [E_bin, E_bin, E_loc]
    show (((sem C (.meth .join (.const (.str [32])) (.cons (.loc 6) .nil))).E _ h3).bind _).bind _ = _
    rw [ej, Res.bind_ok]
    show ((if t.length + (joinBy [32] ws).length ≤ lim then Res.ok (Val.str (t ++ joinBy [32] ws)) h3 else .stuck).bind _) = _
    rw [if_pos (by show _ ≤ 1048576; omega), Res.bind_ok]
    show (if (t ++ joinBy [32] ws).length + [10].length ≤ lim then Res.ok (Val.str (t ++ joinBy [32] ws ++ [10])) h3 else .stuck) = _
    rw [if_pos (by show _ ≤ 1048576; simp only [List.length_append, List.length_singleton]; omega)]) ?_
  exact ⟨rfl, p3, _, _, _, _, _, rfl, (at'.app ja).app (fun c hc => by rw [List.mem_singleton.mp hc]; omega), by simp only [List.length_append, List.length_singleton]; omega⟩
end
end Mine


-- part L07s
set_option maxRecDepth 4000
set_option linter.unusedVariables false
set_option linter.unusedSimpArgs false
namespace Mine

theorem RL.pre {h h' : MH} (p : h <+: h') {rs : List (List Nat)} {vs : List Val} (r : RL rowR rs vs h) : RL rowR rs vs h' := r.mono fun _ _ q => q.mono p
theorem Out.mono {r : Except Nat (List (List Nat))} {v : Val} {h h' : MH} (p : h <+: h') (o : Out r v h) : Out r v h' := by
  cases r with
  | error c => exact o
  | ok rs => obtain ⟨a, vs, e, g, R⟩ := o; exact ⟨a, vs, e, get_pre p g, R.pre p⟩
theorem due_out {ls : List (List Nat)} {lst : List Nat} {v : Val} {a a0 : Nat} {vs : List Val} {h : MH} (g : h[a]? = some (.list vs)) (R : RL (roR a0) (linesP ls lst) vs h)
    (q : match optAll id (linesP ls lst) with | none => v = sC 8 | some rs => (match verdict (rowsV rs) with | some c => v = sC c | none => v = .ref a)) : Out (readL ls lst) v h := by
  unfold linesP at q R
  unfold readL
  by_cases hl : lst = []
  · rw [if_pos hl] at q R ⊢
    rw [optAll_map] at q
    have ha := fun rs (e : optAll rowP ls = some rs) => all_some (h := h) (by rw [optAll_map]; exact e) R
    cases ho : optAll rowP ls with
    | none => rw [ho] at q; exact q
    | some rs =>
      rw [ho] at q
      simp only at q ⊢
      cases hv : verdict (rowsV rs) with
      | some c => rw [hv] at q; exact q
      | none => rw [hv] at q; exact ⟨a, vs, q, g, ha rs ho⟩
  · rw [if_neg hl] at q ⊢
    exact q

section
variable {F : Nat → Option MFun} {W n : Nat} {h : MH}

structure FL (F : Nat → Option MFun) : Prop where
  r : FR F
  h22 : F 22 = some f_law_whole
  h23 : F 23 = some f_law_cell
  h24 : F 24 = some f_law_draws
  h31 : F 31 = some f07_law_told
  h39 : F 39 = some f_law_due
  h43 : F 43 = some f_law_by_base
  h47 : F 47 = some f_law_number
  h48 : F 48 = some f_law_word
  h49 : F 49 = some f_law_sign
  h50 : F 50 = some f_law_row
  h51 : F 51 = some f_law_lines
  h52 : F 52 = some f_law_kinds
  h78 : F 78 = some f_law

noncomputable def lawE : MStmt := .cons (.assign 8 (.call 31 (.cons (.loc 2) .nil)))
  (.cons (.assign 9 (.call 39 (.cons (.call 51 (.cons (.loc 2) .nil)) .nil)))
  (.cons (.ret (.and (.call 52 (.cons (.loc 8) .nil)) (.and (.cmp .Eq (.loc 8) (.loc 9)) (.cmp .Eq (.call 43 (.cons (.loc 2) .nil)) (.isinst .str (.loc 9))))))
  .nil))

theorem law_end (L : FL F) {t : List Nat} (asc : Asc t) (lt : t.length < 100000) {o1 o3 o4 o5 o6 o7 o8 o9 o10 : Option Val} :
    Wp (exec (callN F W (n + 6)) W lawE [some (.ref 0), o1, some (.str t), o3, o4, o5, o6, o7, o8, o9, o10] h) fun p h' => p.1 = .ret (.bool true) := by
  obtain ⟨ls, lst, hs⟩ := sp_last 10 t
  unfold lawE
  obtain ⟨v8, h8, e8, p8, q8⟩ := (told_x (W := W) (n := n) (h := h) L.r L.h31 asc (by omega) hs).get
  refine w_assign v8 (h' := h8) (by rw [E_call]; exact e8) ?_
  show Wp (exec (callN F W (n + 6)) W (.cons _ _) [some (.ref 0), o1, some (.str t), o3, o4, o5, o6, o7, some v8, o9, o10] h8) _
  obtain ⟨v, h9, e9, p9, a, vs, rfl, g, R⟩ := (llines_ok (W := W) (n := n + 3) (h := h8) L.h47 L.h50 L.h51 asc (by omega) hs).get
  obtain ⟨v9, hA, eA, pA, qA⟩ := (due_ok (W := W) (n := n + 5) (h := h9) L.h39 g R).get
  have oA : Out (readL ls lst) v9 hA := (due_out g R qA).mono pA
  have o8' : Out (readL ls lst) v8 hA := q8.mono (p9.trans pA)
  refine w_assign v9 (h' := hA) (by
    rw [E_call, Es_cons, E_call]
    show ((((callN F W (n + 6) 51 [.str t] h8).bind fun v h => .ok [v] h)).bind fun vs h => callN F W (n + 6) 39 vs h) = _
    rw [show callN F W (n + 6) 51 [.str t] h8 = _ from e9]
    exact eA) ?_
  show Wp (exec (callN F W (n + 6)) W (.cons _ _) [some (.ref 0), o1, some (.str t), o3, o4, o5, o6, o7, some v8, some v9, o10] hA) _
  obtain ⟨vb, hB, eB, pB, rfl⟩ := (bybase_x (W := W) (n := n) (h := hA) L.r L.h43 asc (by omega) hs).get
  have ek := kinds_x (W := W) (n := n + 4) L.h22 L.h52 o8'
  have eq := out_eq o8' oA
  have es := out_str (oA.mono pB)
  refine w_ret (.bool true) (h' := hB) (by
    rw [E_and, E_call]
    show ((callN F W (n + 6) 52 [v8] hA).bind _) = _
    rw [ek, Res.bind_ok, truthy_bool, Res.opt_some, Res.bind_ok, if_pos rfl, E_and, E_cmp]
    show ((((Res.opt (cmpV hA .Eq v8 v9) hA)).bind _).bind _) = _
    rw [eq]
    show (sem (callN F W (n + 6)) (.cmp .Eq (.call 43 (.cons (.loc 2) .nil)) (.isinst .str (.loc 9)))).E _ hA = _
    rw [E_cmp, E_call]
    show ((callN F W (n + 6) 43 [.str t] hA).bind _) = _
    rw [eB, Res.bind_ok, E_isinst]
    show (((Res.opt (isInstV hB .str v9) hB).bind _).bind _) = _
    rw [es, Res.opt_some, Res.bind_ok, Res.bind_ok]
    show (Res.opt (some (isErr (readL ls lst) == isErr (readL ls lst))) hB).bind _ = _
    rw [beq_self_eq_true]; rfl) rfl

theorem w_iff {C : Cf} {ρ : Rho} {h' : MH} {c : MExpr} {t r : MStmt} {b : Bool} {P : MFlow × Rho → MH → Prop} (hc : (sem C c).T ρ h = .ok b h') (k : Wp (exec C W (if b = true then t else .nil) ρ h') fun p h => Wp (thenX C W r p h) P) : Wp (exec C W (.cons (.ifs c t .nil) r) ρ h) P := by
  rw [st_if hc, Wp_bind]
  exact k

noncomputable def lawM : MStmt := .cons (.ifs (.cmp .Eq (.bin .Mod (.call 23 (.cons (.loc 0) (.cons (.const (.int 2)) .nil))) (.const (.int 8))) (.const (.int 1)))
  (.cons (.assign 2 (.slice (.loc 2) .nil (.cons (.un .USub (.const (.int 1))) .nil))) .nil) .nil)
  (.cons (.ifs (.cmp .Eq (.bin .Mod (.bin .FloorDiv (.call 23 (.cons (.loc 0) (.cons (.const (.int 2)) .nil))) (.const (.int 8))) (.const (.int 3))) (.const (.int 1)))
  (.cons (.assign 7 (.bin .Mod (.call 23 (.cons (.loc 0) (.cons (.const (.int 3)) .nil))) (.bin .Add (.bi .len (.cons (.loc 2) .nil)) (.const (.int 1)))))
  (.cons (.assign 2 (.bin .Add (.bin .Add (.slice (.loc 2) .nil (.cons (.loc 7) .nil)) (.call 49 (.cons (.bin .FloorDiv (.call 23 (.cons (.loc 0) (.cons (.const (.int 2)) .nil))) (.const (.int 24))) .nil))) (.slice (.loc 2) (.cons (.loc 7) .nil) .nil)))
  .nil)) .nil) lawE)

theorem cell_E {C : Cf} {xs : List Int} (h23 : ∀ k h, seqOf h 0 = some (true, xs.map .int) → 0 ≤ k → C 23 [.ref 0, .int k] h = .ok (.int (cellI xs k)) h) {ρ : Rho} (sc : seqOf h 0 = some (true, xs.map .int)) (h0 : locV 0 ρ h = .ok (.ref 0) h) {k : Int} (hk : 0 ≤ k) : (sem C (.call 23 (.cons (.loc 0) (.cons (.const (.int k)) .nil)))).E ρ h = .ok (.int (cellI xs k)) h := by
  rw [E_call, Es_cons, E_loc, h0, Res.bind_ok]
  exact h23 k h sc hk
theorem mod_E {C : Cf} {ρ : Rho} {e : MExpr} {x m : Int} (he : (sem C e).E ρ h = .ok (.int x) h) (hm : 0 < m) : (sem C (.bin .Mod e (.const (.int m)))).E ρ h = .ok (.int (x % m)) h := by
  rw [E_bin, he, Res.bind_ok, E_const, Res.bind_ok, bin_mod, if_pos hm]
theorem fdiv_E {C : Cf} {ρ : Rho} {e : MExpr} {x m : Int} (he : (sem C e).E ρ h = .ok (.int x) h) (hm : 0 < m) (hm' : m < 1000) : (sem C (.bin .FloorDiv e (.const (.int m)))).E ρ h = .ok (.int (x / m)) h := by
  rw [E_bin, he, Res.bind_ok, E_const, Res.bind_ok, bin_fd, if_pos ⟨hm, by omega⟩]
theorem eq_T {C : Cf} {ρ : Rho} {e : MExpr} {x m : Int} (he : (sem C e).E ρ h = .ok (.int x) h) : (sem C (.cmp .Eq e (.const (.int m)))).T ρ h = .ok (x == m) h := by
  rw [T_cmp, he, Res.bind_ok, E_const, Res.bind_ok]; rfl

theorem law_mid (L : FL F) {xs : List Int} (sc : seqOf h 0 = some (true, xs.map .int)) {t : List Nat} (asc : Asc t) (lt : t.length < 90000) {o1 o3 o4 o5 o6 o7 o8 o9 o10 : Option Val} :
    Wp (exec (callN F W (n + 6)) W lawM [some (.ref 0), o1, some (.str t), o3, o4, o5, o6, o7, o8, o9, o10] h) fun p h' => p.1 = .ret (.bool true) := by
  have h23 : ∀ k h, seqOf h 0 = some (true, xs.map .int) → 0 ≤ k → callN F W (n + 6) 23 [.ref 0, .int k] h = .ok (.int (cellI xs k)) h := fun k h sc hk => cell_eq L.h23 sc hk
  unfold lawM
  refine w_iff (eq_T (mod_E (cell_E h23 sc rfl (by omega)) (by omega))) ?_
  -- the text without its end
  have mid : ∀ t' : List Nat, Asc t' → t'.length < 90000 → Wp (exec (callN F W (n + 6)) W (.cons (.ifs (.cmp .Eq (.bin .Mod (.bin .FloorDiv (.call 23 (.cons (.loc 0) (.cons (.const (.int 2)) .nil))) (.const (.int 8))) (.const (.int 3))) (.const (.int 1)))
  (.cons (.assign 7 (.bin .Mod (.call 23 (.cons (.loc 0) (.cons (.const (.int 3)) .nil))) (.bin .Add (.bi .len (.cons (.loc 2) .nil)) (.const (.int 1)))))
  (.cons (.assign 2 (.bin .Add (.bin .Add (.slice (.loc 2) .nil (.cons (.loc 7) .nil)) (.call 49 (.cons (.bin .FloorDiv (.call 23 (.cons (.loc 0) (.cons (.const (.int 2)) .nil))) (.const (.int 24))) .nil))) (.slice (.loc 2) (.cons (.loc 7) .nil) .nil)))
  .nil)) .nil) lawE) [some (.ref 0), o1, some (.str t'), o3, o4, o5, o6, o7, o8, o9, o10] h) fun p h' => p.1 = .ret (.bool true) := fun t' a' l' => by
    refine w_iff (eq_T (mod_E (fdiv_E (cell_E h23 sc rfl (by omega)) (by omega) (by omega)) (by omega))) ?_
    cases hb : (cellI xs 2 / 8 % 3 == 1) with
    | false => exact law_end L a' (by omega)
    | true =>
      rw [if_pos rfl]
      have hm : 0 < (t'.length : Int) + 1 := by omega
      refine w_assign (.int (cellI xs 3 % ((t'.length : Int) + 1))) (h' := h) (by
        rw [E_bin, cell_E h23 sc rfl (by omega), Res.bind_ok]
        show binV h .Mod (.int (cellI xs 3)) (.int ((t'.length : Int) + 1)) = _
        rw [bin_mod, if_pos hm]) ?_
      have q1 := Int.emod_nonneg (cellI xs 3) (Int.ne_of_gt hm)
      have q2 := Int.emod_lt_of_pos (cellI xs 3) hm
      generalize cellI xs 3 % ((t'.length : Int) + 1) = p at q1 q2 ⊢
      show Wp (exec (callN F W (n + 6)) W (.cons _ .nil) [some (.ref 0), o1, some (.str t'), o3, o4, o5, o6, some (.int p), o8, o9, o10] h) _
      obtain ⟨c, ec, hc⟩ := sign_x (F := F) (W := W) (n := n + 5) (h := h) L.h49 (x := cellI xs 2 / 24)
      have cp : ∀ d, cutAt (.int p) d t'.length = some (min p.toNat t'.length) := fun d => by unfold cutAt; simp only; rw [if_pos q1]
      have s1' : (sem (callN F W (n + 6)) (.slice (.loc 2) .nil (.cons (.loc 7) .nil))).E [some (.ref 0), o1, some (.str t'), o3, o4, o5, o6, some (.int p), o8, o9, o10] h = .ok (.str ((t'.take (min p.toNat t'.length)).drop 0)) h := by
        show sliceS h t' .none (.int p) = _
        unfold sliceS
        rw [cp]; rfl
      have s2' : (sem (callN F W (n + 6)) (.slice (.loc 2) (.cons (.loc 7) .nil) .nil)).E [some (.ref 0), o1, some (.str t'), o3, o4, o5, o6, some (.int p), o8, o9, o10] h = .ok (.str ((t'.take t'.length).drop (min p.toNat t'.length))) h := by
        show sliceS h t' (.int p) .none = _
        unfold sliceS
        rw [cp]; rfl
      have a1 : Asc ((t'.take (min p.toNat t'.length)).drop 0) := a'.sub fun c hc => List.mem_of_mem_take (List.mem_of_mem_drop hc)
      have a2 : Asc ((t'.take t'.length).drop (min p.toNat t'.length)) := a'.sub fun c hc => List.mem_of_mem_take (List.mem_of_mem_drop hc)
      have l1 : ((t'.take (min p.toNat t'.length)).drop 0).length ≤ t'.length := by rw [List.length_drop, List.length_take]; omega
      have l2 : ((t'.take t'.length).drop (min p.toNat t'.length)).length ≤ t'.length - min p.toNat t'.length := by rw [List.length_drop, List.length_take]; omega
      have l3 : ((t'.take (min p.toNat t'.length)).drop 0).length ≤ min p.toNat t'.length := by rw [List.length_drop, List.length_take]; omega
      generalize (t'.take (min p.toNat t'.length)).drop 0 = u1 at s1' a1 l1 l3
      generalize (t'.take t'.length).drop (min p.toNat t'.length) = u2 at s2' a2 l2
      refine w_assign (.str (u1 ++ [c] ++ u2)) (h' := h) (by
        rw [E_bin, E_bin, s1', Res.bind_ok, E_call, Es_cons, fdiv_E (cell_E h23 sc rfl (by omega)) (by omega) (by omega), Res.bind_ok]
        show (((callN F W (n + 6) 49 [.int (cellI xs 2 / 24)] h).bind _).bind _) = _
        rw [ec, Res.bind_ok]
        show ((if u1.length + [c].length ≤ lim then Res.ok (Val.str (u1 ++ [c])) h else .stuck).bind _) = _
        rw [if_pos (by show _ ≤ 1048576; simp only [List.length_singleton]; omega), Res.bind_ok, s2', Res.bind_ok]
        show (if (u1 ++ [c]).length + u2.length ≤ lim then Res.ok (Val.str (u1 ++ [c] ++ u2)) h else .stuck) = _
        rw [if_pos (by show _ ≤ 1048576; simp only [List.length_append, List.length_singleton]; omega)]) ?_
      rw [X_nil, Wp_ok, thenX_next]
      exact law_end L ((a1.app (fun x hx => by rw [List.mem_singleton.mp hx]; exact hc)).app a2) (by simp only [List.length_append, List.length_singleton]; omega)
  cases hb : (cellI xs 2 % 8 == 1) with
  | false => exact mid t asc lt
  | true =>
    rw [if_pos rfl]
    refine w_assign (.str ((t.take ((-1 : Int) + (t.length : Int)).toNat).drop 0)) (h' := h) rfl ?_
    rw [X_nil, Wp_ok, thenX_next]
    exact mid _ (asc.sub fun c hc => List.mem_of_mem_take (List.mem_of_mem_drop hc)) (by rw [List.length_drop, List.length_take]; omega)

theorem law_ok (L : FL F) (xs : List Int) : Wp (callN F W (n + 7) 78 [.ref 0] [.ro (xs.map .int)]) fun v _ => v = .bool true := by
  rw [callN_def L.h78 rfl, Wp_bind]
  have h23 : ∀ k h, seqOf h 0 = some (true, xs.map .int) → 0 ≤ k → callN F W (n + 6) 23 [.ref 0, .int k] h = .ok (.int (cellI xs k)) h := fun k h sc hk => cell_eq L.h23 sc hk
  have sc0 : seqOf [.ro (xs.map .int)] 0 = some (true, xs.map .int) := rfl
  generalize hh : [MObj.ro (xs.map .int)] = h0 at sc0
  have scp : ∀ h, h0 <+: h → seqOf h 0 = some (true, xs.map .int) := fun h p => by
    have : h[0]? = some (.ro (xs.map .int)) := get_pre p (by rw [← hh]; rfl)
    simp [seqOf, this]
  show Wp (exec (callN F W (n + 6)) W f_law.body [some (.ref 0), none, none, none, none, none, none, none, none, none, none] h0) _
  have fin : ∀ (g : Nat), g ≤ 42 → Wp (exec (callN F W (n + 6)) W (.cons (.assign 2 (.const (.str []))) (.cons (.fors (.loc 3) (.irange (.bin .Mod (.call 23 (.cons (.loc 0) (.cons (.const (.int 0)) .nil))) (.const (.int 12)))) lawB) lawM)) [some (.ref 0), some (.int (g : Nat)), none, none, none, none, none, none, none, none, none] h0) fun a h => Wp (retOf a h) fun v _ => v = .bool true := fun g hg => by
    refine w_assign (.str []) (h' := h0) rfl ?_
    show Wp (exec (callN F W (n + 6)) W (.cons _ _) [some (.ref 0), some (.int (g : Nat)), some (.str []), none, none, none, none, none, none, none, none] h0) _
    have hc : (cellI xs 0 % 12) = (((cellI xs 0 % 12).toNat : Nat) : Int) := by omega
    have hm : (cellI xs 0 % 12).toNat ≤ 11 := by omega
    refine w_for (s := (rangeVals 0 (cellI xs 0 % 12).toNat, fun _ => true)) (h' := h0) (I1_ok (mod_E (cell_E h23 sc0 rfl (by omega)) (by omega)) (by rw [hc]; exact irange_ok (by omega))) ?_
    generalize (cellI xs 0 % 12).toNat = m at hm
    refine forLoop_inv (fun rest ρ h => h0 <+: h ∧ rest.length ≤ 11 ∧ (∀ x ∈ rest, ∃ k : Nat, x = .int (k : Nat)) ∧ TI g (11000 - 1000 * rest.length) ρ) (fun x rest ρ h I => ?_) (fun ρ h I => ?_) _ _ _ ⟨List.prefix_refl _, by rw [rangeVals_eq]; simpa using hm, fun x hx => by
      rw [rangeVals_eq] at hx
      obtain ⟨i, _, rfl⟩ := List.mem_map.mp hx
      exact ⟨i, by simp⟩, [], none, none, none, none, rfl, fun _ q => (nomatch q), by simp⟩
    · obtain ⟨i1, i2, i3, i4⟩ := I
      obtain ⟨k, rfl⟩ := i3 x (.head _)
      simp only [List.length_cons] at i2 i4
      refine (law_turn (W := W) xs h23 (fun c m h hm => draws_eq L.h24 hm) (fun x h => word_x L.h48) hg (by omega) (scp h i1) i4).mono fun p h' z => ?_
      obtain ⟨fl, ρ'⟩ := p
      obtain ⟨z1, z2, z3⟩ := z
      have z1 : fl = .next := z1
      subst z1
      refine ⟨rfl, i1.trans z2, by omega, fun y hy => i3 y (.tail _ hy), ?_⟩
      obtain ⟨t, o3, o4, o5, o6, e, a, l⟩ := z3
      exact ⟨t, o3, o4, o5, o6, e, a, by omega⟩
    · obtain ⟨i1, i2, i3, t, o3, o4, o5, o6, rfl, a, l⟩ := I
      rw [thenX_next]
      refine (law_mid L (scp h i1) a (by simp at l; omega)).mono fun p h' z => ?_
      obtain ⟨fl, ρ'⟩ := p
      have z : fl = .ret (.bool true) := z
      subst z
      rfl
  unfold f_law
  refine w_assign (.int (cellI xs 1 % 4)) (h' := h0) (mod_E (cell_E h23 sc0 rfl (by omega)) (by omega)) ?_
  show Wp (exec (callN F W (n + 6)) W (.cons _ _) [some (.ref 0), some (.int (cellI xs 1 % 4)), none, none, none, none, none, none, none, none, none] h0) _
  refine w_iff (eq_T (mod_E (fdiv_E (cell_E h23 sc0 rfl (by omega)) (by omega) (by omega)) (by omega))) ?_
  cases hb : (cellI xs 1 / 4 % 16 == 1) with
  | false =>
    have := fin (cellI xs 1 % 4).toNat (by omega)
    rw [show (((cellI xs 1 % 4).toNat : Nat) : Int) = cellI xs 1 % 4 by omega] at this
    exact this
  | true =>
    rw [if_pos rfl]
    refine w_assign (.int (39 + cellI xs 1 / 64 % 4)) (h' := h0) (by
      rw [E_bin, E_const, Res.bind_ok, mod_E (fdiv_E (cell_E h23 sc0 rfl (by omega)) (by omega) (by omega)) (by omega)]; rfl) ?_
    have := fin (39 + cellI xs 1 / 64 % 4).toNat (by omega)
    rw [show (((39 + cellI xs 1 / 64 % 4).toNat : Nat) : Int) = 39 + cellI xs 1 / 64 % 4 by omega] at this
    exact this
end

theorem fl : FL F := ⟨⟨rfl, rfl, rfl, rfl, rfl, rfl, rfl⟩, rfl, rfl, rfl, rfl, rfl, rfl, rfl, rfl, rfl, rfl, rfl, rfl, rfl⟩
theorem run_ok (xs : List Int) (hl : xs.length ≤ 63) : ∃ h, callN F 10 20 78 [.ref 0] [.ro (xs.map .int)] = .ok (.bool true) h := by
  obtain ⟨v, h, e, rfl⟩ := (law_ok (W := 10) (n := 13) fl xs).get
  exact ⟨h, e⟩
end Mine


open PySem PySem.W PyProof.Rows
set_option maxRecDepth 100000 in
set_option maxHeartbeats 8000000 in
theorem PySem.Challenge.cw_uf030031_07_holds : PySem.Challenge.rw_uf030031_07.Holds := by
  w_on; o_law; o_head (Mine.exHook Mine.exs)
  case hw => w_witness2
  intro w s₀ s₁ mg mb G Y fa o pm cd doc dV kV ho hd hcd hD hmg hg args vals as hpre hlay hrd hwl hlo
  refine Ground.open G ?_
  intro T B D TE TW
  wrow_args hpre hlay hrd hwl hlo
  rename_i xs _ _ _ _ _ _ _ _ _ _ _ _ wl _ _ _ hc _
  have hl : xs.length ≤ 63 := by omega
  obtain ⟨h, run⟩ := Mine.run_ok xs hl
  refine enter_call (Mine.law_ends T (cs := Mine.exs) (nm := Mine.nm) (F := Mine.F) (g := Mine.gm) (f := 78) (W := 10) (k := 20) (by kernel_rfl) Y hg (by kernel_rfl) hmg wl (by decide) hl run ?_ ?_)
  · intro _; rfl
  · wrow_post
